/-
  Part 44 of the proof: TriS TriJ.
-/
import Derived.Test.YtfgmdhjmgdccdaaGreatJ43
set_option linter.unusedSimpArgs false
set_option linter.unusedVariables false
set_option maxHeartbeats 8000000
namespace Go.Proofs.YtfgmdhjmgdccdaaGreat
open Go.RowKit Gus Go.Maps
def om (i j:Nat):Rat:=ratR (i+j+2) [i,j]
theorem it_tri1 (i j:Nat) (w:World) (h:i+j≤6):Calls Tryz.prog 61 #[.int .i64 (i:Int),.int .i64 (j:Int)] w (Ret w (fracV (om i j))):=tri1 i j w (by omega) (by omega)
theorem hw_om {i j:Nat} (h:i+j≤6):hw (om i j)≤200:=by
 have h1:=hw_prodL [i,j] (by simp) (by simp;omega) 1
 have h2:=hw_divF (prodL [i,j]) (i+j+2) (by omega)
 have h3:hw (1:Rat)≤2:=hw_one
 have h4:hw (prodL [i,j])≤hw 1+40*2:=h1
 show hw (divF (prodL [i,j]) (i+j+2))≤_
 omega
def sumT (l:List T):Rat:=l.foldl (fun acc t=>acc+t.c*om t.i t.j) 0
theorem sumT_snoc (l:List T) (t:T):sumT (l++ [t])=sumT l+t.c*om t.i t.j:=by unfold sumT;rw [List.foldl_append];rfl
theorem hw_sumT {l:List T} (hok:∀t∈l,t.i+t.j≤6):∀n,n≤l.length→hw (sumT (l.take n))≤202*tot (l.take n)+10
 | 0,_=>by show hw (0:Rat)≤_;have:=hw_0;omega
 | n+1,hn=>by
  have ih:=hw_sumT hok n (by omega)
  have hlt:n<l.length:=by omega
  have e:l.take (n+1)=l.take n++ [l[n]]:=by rw [List.take_add_one,List.getElem?_eq_getElem hlt];rfl
  have h0:=hok _ (List.getElem_mem hlt)
  have h1:=hw_om h0
  have h2:=hw_mul l[n].c (om l[n].i l[n].j)
  have h3:=hw_add (sumT (l.take n)) (l[n].c*om l[n].i l[n].j)
  rw [e,sumT_snoc,tot_append]
  simp only [tot]
  omega
set_option maxRecDepth 20000 in
theorem it_sumT (l:List T) (v:Value) (w:World) (hS:PL w 0 v l) (hok:∀t∈l,t.i+t.j≤6) (ht:tot l≤400000000):Calls Tryz.prog 64 #[v,.func (.func 61) #[] #[]] w (Ret w (fracV (sumT l))):=by
 obtain ⟨al,cl,rfl⟩:=hS.at
 have HS:=Lh hS
 have hlen:=tot_len l
 have HOK:=Lh hok
 have HH:=Lh (hw_sumT hok)
 clear hS hok
 go_enter Tryz.func64,Tryz.ntmps64
 go_wp2
 have HZ:=Lh (show VB (w.alloc (.cells #[zU,zS,.bool false,zU,zS] 59)) w.heap.size [zU,zS,.bool false,zU,zS]from by exact vbb)
 have hz0:=zero_cells
 go_loopw [9] (fun s wr=> ∃n:Nat,s= .int .i64 n∧n≤l.length∧Hid (VB wr w.heap.size [.int .u64 (lowN (sz (sumT (l.take n)).num)),.string (bigS (sz (sumT (l.take n)).num)),.bool (ng (sumT (l.take n)).num),.int .u64 (lowN (fm (sumT (l.take n)))),.string (bigS (fm (sumT (l.take n))))])∧Hid (Gr w.heap.size w wr)) (fun s _=>l.length - (intOf s).toNat)
 case atStart=>exact⟨0,rfl,Nat.zero_le _,Lh (by show VB _ _ [.int .u64 (lowN (sz (0:Rat).num)),.string (bigS (sz (0:Rat).num)),.bool (ng (0:Rat).num),.int .u64 (lowN (fm (0:Rat))),.string (bigS (fm (0:Rat)))];rw [hz0];exact HZ.out),Lh (by exact gzz)⟩
 case round=>
  clear HZ hz0
  obtain ⟨n,rfl,hn,HV,HQ⟩:=hrel
  have hszr:=HQ.out.size
  have hvl:=HV.out.lt
  have hh:=HH.out n hn
  have htt:=tot_take l n
  obtain ⟨q,hq⟩:∃q,sumT (l.take n)=q:=⟨_,rfl⟩
  by_cases hlt:n<l.length
  ·obtain ⟨t,ht9⟩:∃t,l[n]=t:=⟨_,rfl⟩
   have htm:t∈l:=ht9 ▸ List.getElem_mem hlt
   have hto:t.i+t.j≤6:=HOK.out t htm
   have htc:=tot_mem htm
   obtain ⟨g,cap',e1,_,_,_,hsh,hR⟩:=(HS.out.gr HQ.out).block (by intro e;rw [e]at hlt;simp at hlt)
   injection e1 with e1 e3 e2
   clear e3
   subst e1 e2
   obtain ⟨a0,a1,a2,a3,a4,a5,a6⟩:=hR.term hlt ht9
   have hg9:=hsh.lt
   have HSG:=Lh (fun W=>it_tri1 t.i t.j W (by omega))
   have hps:=hw_om (i:=t.i) (j:=t.j) (by omega)
   have HM:=Lh (fun W=>fr_Mul t.c (om t.i t.j) W (by omega) (by omega))
   have hm2:=hw_mul t.c (om t.i t.j)
   rw [hq]at hh
   have HA:=Lh (fun W=>fr_Add q (t.c*om t.i t.j) W (by omega) (by omega))
   have HNX:=Lh (show sumT (l.take (n+1))=q+t.c*om t.i t.j from by rw [List.take_add_one,List.getElem?_eq_getElem hlt,ht9];show sumT (l.take n++ [t])=_;rw [sumT_snoc,hq])
   obtain ⟨r,hr⟩:∃r,om t.i t.j=r:=⟨_,rfl⟩
   rw [hr]at HSG HM HA HNX
   obtain ⟨s,hs⟩:∃s,t.c*r=s:=⟨_,rfl⟩
   rw [hs]at HM HA HNX
   obtain ⟨u,hu⟩:∃u,q+s=u:=⟨_,rfl⟩
   rw [hu]at HA HNX
   rw [hq]at HV
   clear hR hsh ht9 htm hto htc hps hm2 hh htt hq hr hs hu
   go_upto_region 4 with fail
   have HTB:=Lh (show VB (wr.alloc (.cells #[.int .i64 (t.i:Int),.int .i64 (t.j:Int),vA t.c,vB t.c,vC t.c,vD t.c,vE t.c] 111)) wr.heap.size (tC t)from by exact vbb)
   have HVT:=Lh (show VB (wr.alloc (.cells #[.int .i64 (t.i:Int),.int .i64 (t.j:Int),vA t.c,vB t.c,vC t.c,vD t.c,vE t.c] 111)) w.heap.size [vA q,vB q,vC q,vD q,vE q]from HV.out.alloc _)
   have HGT:=Lh (show Gr w.heap.size w (wr.alloc (.cells #[.int .i64 (t.i:Int),.int .i64 (t.j:Int),vA t.c,vB t.c,vC t.c,vD t.c,vE t.c] 111))from by exact gcc HQ gzz)
   have hz11:(wr.alloc (.cells #[.int .i64 (t.i:Int),.int .i64 (t.j:Int),vA t.c,vB t.c,vC t.c,vD t.c,vE t.c] 111)).heap.size=wr.heap.size+1:=by simp
   generalize (wr.alloc (.cells #[.int .i64 (t.i:Int),.int .i64 (t.j:Int),vA t.c,vB t.c,vC t.c,vD t.c,vE t.c] 111))=wt at *
   obtain ⟨tb,htb⟩:∃q,wr.heap.size=q:=⟨_,rfl⟩
   rw [htb]at HTB hz11 hvl hszr ⊢
   have htbt:tb<wt.heap.size:=by omega
   have hvt:w.heap.size<wt.heap.size:=by omega
   have hnt:w.heap.size≠tb:=by omega
   clear a0 a1 a2 a3 a4 a5 a6 HV HQ hg9
   obtain ⟨v0,v1,v2,v3,v4,v5,v6⟩:=HTB.out.seven
   obtain ⟨p0,p1,p2,p3,p4,-⟩:=HVT.out.five
   refine wp_region_L 11 (S:=(fun w'=>w'.cell? ⟨tb,0,none⟩=some (.int .i64 (t.i:Int))∧w'.cell? ⟨tb,1,none⟩=some (.int .i64 (t.j:Int))∧w'.cell? ⟨tb,2,none⟩=some (vA t.c)∧w'.cell? ⟨tb,3,none⟩=some (vB t.c)∧w'.cell? ⟨tb,4,none⟩=some (vC t.c)∧w'.cell? ⟨tb,5,none⟩=some (vD t.c)∧w'.cell? ⟨tb,6,none⟩=some (vE t.c)∧w'.cell? ⟨w.heap.size,0,none⟩=some (vA q)∧w'.cell? ⟨w.heap.size,1,none⟩=some (vB q)∧w'.cell? ⟨w.heap.size,2,none⟩=some (vC q)∧w'.cell? ⟨w.heap.size,3,none⟩=some (vD q)∧w'.cell? ⟨w.heap.size,4,none⟩=some (vE q))) (by kernel_rfl) ?_ (fun hHeld=>?_)
   ·simp [go_sem, *]
   refine tkL 0 (some 13) (fracV q) ?_
   try simp only [pS]
   refine tkL 1 (some 14) (.pointer (some ⟨tb,2,none⟩)) ?_
   try simp only [pS]
   refine tkL 2 (some 15) (fracV t.c) ?_
   try simp only [pS]
   refine tkL 3 (some 16) (.func (.func 61) #[] #[]) ?_
   try simp only [pS]
   refine tkL 4 (some 17) (.pointer (some ⟨tb,0,none⟩)) ?_
   try simp only [pS]
   refine tkL 5 (some 18) (.int .i64 (t.i:Int)) ?_
   try simp only [pS]
   refine tkL 6 (some 19) (.pointer (some ⟨tb,1,none⟩)) ?_
   try simp only [pS]
   refine tkL 7 (some 20) (.int .i64 (t.j:Int)) ?_
   try simp only [pS]
   refine rdL 8 (fun K hK=>?_)
   go_simp
   (refine rtt (HSG.out _) fun w5 hsz5 hc5 hf5 HG5=>?_;(try simp at hsz5);have hy5_0:tb<w5.heap.size:=(by omega);have hy5_1:w.heap.size<w5.heap.size:=(by omega))
   refine kO hK fun hQ1=>?_
   clear hK K hHeld
   refine rdL 9 (fun K hK=>?_)
   go_simp
   (refine rtt (HM.out _) fun w6 hsz6 hc6 hf6 HG6=>?_;(try simp at hsz6);have hy6_0:tb<w6.heap.size:=(by omega);have hy6_1:w.heap.size<w6.heap.size:=(by omega))
   refine kO hK fun hQ2=>?_
   clear hK K hQ1
   refine rdL 10 (fun K hK=>?_)
   go_simp
   (refine rtt (HA.out _) fun w7 hsz7 hc7 hf7 HG7=>?_;(try simp at hsz7);have hy7_0:tb<w7.heap.size:=(by omega);have hy7_1:w.heap.size<w7.heap.size:=(by omega))
   refine kO hK fun hQ3=>?_
   clear hK K hQ2
   have HV7:=Lh (show VB w7 w.heap.size [vA q,vB q,vC q,vD q,vE q]from by exact vbc HG7 (vbc HG6 (vbc HG5 HVT.out)))
   obtain ⟨r0,r1,r2,r3,r4,-⟩:=HV7.out.five
   have e0:=HV7.out.f 0 (by simp)
   have e1:=HV7.out.f 1 (by simp)
   have e2:=HV7.out.f 2 (by simp)
   have e3:=HV7.out.f 3 (by simp)
   have e4:=HV7.out.f 4 (by simp)
   clear hc5 hf5 hc6 hf6 hc7 hf7 v0 v1 v2 v3 v4 v5 v6 p0 p1 p2 p3 p4 hQ3
   refine rdE 11 (fun K hK=>?_)
   go_simp
   (try dsimp only)
   refine hK.out _ _ ?_
   clear hK K
   try simp only [pS]
   refine AnyL.done (by kernel_rfl) ?_ _
   clear r0 r1 r2 r3 r4 e0 e1 e2 e3 e4
   have hs7:=HG7.out.size
   have hs6:=HG6.out.size
   have hs5:=HG5.out.size
   have HG9:=Lh (show Gr w.heap.size w w7 from by exact gcc HG7 (gcc HG6 (gcc HG5 (gcc HGT gzz))))
   go_wp2
   go_roundw
   case rel=>exact⟨n+1,by go_num,by omega,Lh (by rw [HNX.out];exact HV7.out.put5),Lh (by exact gcc HG9 gzz)⟩
   case measure=>simp [intOf];omega
  ·obtain rfl:n=l.length:=by omega
   have hS9:=hq
   rw [List.take_length]at hS9
   rw [hq]at HV
   obtain ⟨p0,p1,p2,p3,p4,-⟩:=HV.out.five
   have e0:=HV.out.f 0 (by simp)
   have e1:=HV.out.f 1 (by simp)
   have e2:=HV.out.f 2 (by simp)
   have e3:=HV.out.f 3 (by simp)
   have e4:=HV.out.f 4 (by simp)
   have HS9:=Lh hS9
   clear hS9 hq hh htt
   go_wp2
   refine ret_row (g:=w.heap.size) Tryz.results64 rfl (VB.set (cs:= [vA q,vB q,vC q,vD q,vE q]) HV.out [vA q,vB q,vC q,vD q,vE q] rfl) Tryz.underlying59 rfl info_Frac rfl ⟨?_,?_⟩
   ·rw [HS9.out]
   ·exact gcc HQ gzz
end Go.Proofs.YtfgmdhjmgdccdaaGreat
namespace Go.Proofs.YtfgmdhjmgdccdaaGreat
open Go.RowKit Gus Go.Maps
set_option maxRecDepth 20000 in
theorem Tri_raw (a0 a1 b0 b1 c0 c1 u0 u1 v0 v1 d s r:Rat) (pv:Value) (sl:List T) (w:World) (h1:∀W,Calls Tryz.prog 35 #[f2V b0 b1,f2V a0 a1] W (Ret W (f2V u0 u1))) (h2:∀W,Calls Tryz.prog 35 #[f2V c0 c1,f2V a0 a1] W (Ret W (f2V v0 v1))) (h3:∀W,Gr w.heap.size w W→Calls Tryz.prog 60 #[pv,fracV u0,fracV v0,fracV a0,fracV u1,fracV v1,fracV a1] W (RetP W sl)) (h4:∀W,Calls Tryz.prog 63 #[f2V a0 a1,f2V b0 b1,f2V c0 c1] W (Ret W (fracV d))) (h5:∀W u,PL W 0 u sl→Calls Tryz.prog 64 #[u,.func (.func 61) #[] #[]] W (Ret W (fracV s))) (h6:∀W,Calls Tryz.prog 37 #[fracV d,fracV s] W (Ret W (fracV r))):
  Calls Tryz.prog 26 #[pv,f2V a0 a1,f2V b0 b1,f2V c0 c1] w (Ret w (fracV r)):=by
 have H1:=Lh h1
 have H2:=Lh h2
 have H3:=Lh h3
 have H4:=Lh h4
 have H5:=Lh h5
 have H6:=Lh h6
 clear h1 h2 h3 h4 h5 h6
 go_enter Tryz.func26,Tryz.ntmps26
 go_upto_region 1 with fail
 have HB0:=Lh (show VB ((((w.alloc (.cells #[vA a0,vB a0,vC a0,vD a0,vE a0,vA a1,vB a1,vC a1,vD a1,vE a1] 61)).alloc (.cells #[vA b0,vB b0,vC b0,vD b0,vE b0,vA b1,vB b1,vC b1,vD b1,vE b1] 61)).alloc (.cells #[vA c0,vB c0,vC c0,vD c0,vE c0,vA c1,vB c1,vC c1,vD c1,vE c1] 61)).alloc (.cells #[zU,zS,.bool false,zU,zS] 59)) (w.heap.size) [vA a0,vB a0,vC a0,vD a0,vE a0,vA a1,vB a1,vC a1,vD a1,vE a1]from by exact vbb)
 have HB1:=Lh (show VB ((((w.alloc (.cells #[vA a0,vB a0,vC a0,vD a0,vE a0,vA a1,vB a1,vC a1,vD a1,vE a1] 61)).alloc (.cells #[vA b0,vB b0,vC b0,vD b0,vE b0,vA b1,vB b1,vC b1,vD b1,vE b1] 61)).alloc (.cells #[vA c0,vB c0,vC c0,vD c0,vE c0,vA c1,vB c1,vC c1,vD c1,vE c1] 61)).alloc (.cells #[zU,zS,.bool false,zU,zS] 59)) (w.heap.size+1) [vA b0,vB b0,vC b0,vD b0,vE b0,vA b1,vB b1,vC b1,vD b1,vE b1]from by exact vbb)
 have HB2:=Lh (show VB ((((w.alloc (.cells #[vA a0,vB a0,vC a0,vD a0,vE a0,vA a1,vB a1,vC a1,vD a1,vE a1] 61)).alloc (.cells #[vA b0,vB b0,vC b0,vD b0,vE b0,vA b1,vB b1,vC b1,vD b1,vE b1] 61)).alloc (.cells #[vA c0,vB c0,vC c0,vD c0,vE c0,vA c1,vB c1,vC c1,vD c1,vE c1] 61)).alloc (.cells #[zU,zS,.bool false,zU,zS] 59)) (w.heap.size+1+1) [vA c0,vB c0,vC c0,vD c0,vE c0,vA c1,vB c1,vC c1,vD c1,vE c1]from by exact vbb)
 have HZ:=Lh (show VB ((((w.alloc (.cells #[vA a0,vB a0,vC a0,vD a0,vE a0,vA a1,vB a1,vC a1,vD a1,vE a1] 61)).alloc (.cells #[vA b0,vB b0,vC b0,vD b0,vE b0,vA b1,vB b1,vC b1,vD b1,vE b1] 61)).alloc (.cells #[vA c0,vB c0,vC c0,vD c0,vE c0,vA c1,vB c1,vC c1,vD c1,vE c1] 61)).alloc (.cells #[zU,zS,.bool false,zU,zS] 59)) (w.heap.size+1+1+1) [zU,zS,.bool false,zU,zS]from by exact vbb)
 have HG0:=Lh (show Gr w.heap.size w ((((w.alloc (.cells #[vA a0,vB a0,vC a0,vD a0,vE a0,vA a1,vB a1,vC a1,vD a1,vE a1] 61)).alloc (.cells #[vA b0,vB b0,vC b0,vD b0,vE b0,vA b1,vB b1,vC b1,vD b1,vE b1] 61)).alloc (.cells #[vA c0,vB c0,vC c0,vD c0,vE c0,vA c1,vB c1,vC c1,vD c1,vE c1] 61)).alloc (.cells #[zU,zS,.bool false,zU,zS] 59))from by exact gzz)
 have hz0:((((w.alloc (.cells #[vA a0,vB a0,vC a0,vD a0,vE a0,vA a1,vB a1,vC a1,vD a1,vE a1] 61)).alloc (.cells #[vA b0,vB b0,vC b0,vD b0,vE b0,vA b1,vB b1,vC b1,vD b1,vE b1] 61)).alloc (.cells #[vA c0,vB c0,vC c0,vD c0,vE c0,vA c1,vB c1,vC c1,vD c1,vE c1] 61)).alloc (.cells #[zU,zS,.bool false,zU,zS] 59)).heap.size=w.heap.size+1+1+1+1:=by simp
 generalize ((((w.alloc (.cells #[vA a0,vB a0,vC a0,vD a0,vE a0,vA a1,vB a1,vC a1,vD a1,vE a1] 61)).alloc (.cells #[vA b0,vB b0,vC b0,vD b0,vE b0,vA b1,vB b1,vC b1,vD b1,vE b1] 61)).alloc (.cells #[vA c0,vB c0,vC c0,vD c0,vE c0,vA c1,vB c1,vC c1,vD c1,vE c1] 61)).alloc (.cells #[zU,zS,.bool false,zU,zS] 59))=w0 at *
 have h30:w.heap.size+1+1+1<w0.heap.size:=by omega
 have h00:w.heap.size<w0.heap.size:=by omega
 have h01:w.heap.size<w0.heap.size+1:=by omega
 have h02:w.heap.size<w0.heap.size+1+1:=by omega
 have h10:w.heap.size+1<w0.heap.size:=by omega
 have h20:w.heap.size+1+1<w0.heap.size:=by omega
 clear hz0
 have k00:=HB0.out.c 0 _ rfl
 have k01:=HB0.out.c 1 _ rfl
 have k02:=HB0.out.c 2 _ rfl
 have k03:=HB0.out.c 3 _ rfl
 have k04:=HB0.out.c 4 _ rfl
 have k05:=HB0.out.c 5 _ rfl
 have k06:=HB0.out.c 6 _ rfl
 have k07:=HB0.out.c 7 _ rfl
 have k08:=HB0.out.c 8 _ rfl
 have k09:=HB0.out.c 9 _ rfl
 have k10:=HB1.out.c 0 _ rfl
 have k11:=HB1.out.c 1 _ rfl
 have k12:=HB1.out.c 2 _ rfl
 have k13:=HB1.out.c 3 _ rfl
 have k14:=HB1.out.c 4 _ rfl
 have k15:=HB1.out.c 5 _ rfl
 have k16:=HB1.out.c 6 _ rfl
 have k17:=HB1.out.c 7 _ rfl
 have k18:=HB1.out.c 8 _ rfl
 have k19:=HB1.out.c 9 _ rfl
 have k20:=HB2.out.c 0 _ rfl
 have k21:=HB2.out.c 1 _ rfl
 have k22:=HB2.out.c 2 _ rfl
 have k23:=HB2.out.c 3 _ rfl
 have k24:=HB2.out.c 4 _ rfl
 have k25:=HB2.out.c 5 _ rfl
 have k26:=HB2.out.c 6 _ rfl
 have k27:=HB2.out.c 7 _ rfl
 have k28:=HB2.out.c 8 _ rfl
 have k29:=HB2.out.c 9 _ rfl
 go_cut [9,10] (fun s7 s8 wx=> ∃g7 g8:Nat,s7= .pointer (some ⟨g7,0,none⟩)∧s8= .pointer (some ⟨g8,0,none⟩)∧VB wx g7 [vA u0,vB u0,vC u0,vD u0,vE u0,vA u1,vB u1,vC u1,vD u1,vE u1]∧VB wx g8 [vA v0,vB v0,vC v0,vD v0,vE v0,vA v1,vB v1,vC v1,vD v1,vE v1]∧w0.heap.size≤g7∧w0.heap.size≤g8∧Gr w0.heap.size w0 wx)
 case first=>
  go_region_held3 (fun w'=>w'.cell? ⟨w.heap.size,0,none⟩=some (vA a0)∧w'.cell? ⟨w.heap.size,1,none⟩=some (vB a0)∧w'.cell? ⟨w.heap.size,2,none⟩=some (vC a0)∧w'.cell? ⟨w.heap.size,3,none⟩=some (vD a0)∧w'.cell? ⟨w.heap.size,4,none⟩=some (vE a0)∧w'.cell? ⟨w.heap.size,5,none⟩=some (vA a1)∧w'.cell? ⟨w.heap.size,6,none⟩=some (vB a1)∧w'.cell? ⟨w.heap.size,7,none⟩=some (vC a1)∧w'.cell? ⟨w.heap.size,8,none⟩=some (vD a1)∧w'.cell? ⟨w.heap.size,9,none⟩=some (vE a1)∧w'.cell? ⟨w.heap.size+1,0,none⟩=some (vA b0)∧w'.cell? ⟨w.heap.size+1,1,none⟩=some (vB b0)∧w'.cell? ⟨w.heap.size+1,2,none⟩=some (vC b0)∧w'.cell? ⟨w.heap.size+1,3,none⟩=some (vD b0)∧w'.cell? ⟨w.heap.size+1,4,none⟩=some (vE b0)∧w'.cell? ⟨w.heap.size+1,5,none⟩=some (vA b1)∧w'.cell? ⟨w.heap.size+1,6,none⟩=some (vB b1)∧w'.cell? ⟨w.heap.size+1,7,none⟩=some (vC b1)∧w'.cell? ⟨w.heap.size+1,8,none⟩=some (vD b1)∧w'.cell? ⟨w.heap.size+1,9,none⟩=some (vE b1)∧w'.cell? ⟨w.heap.size+1+1,0,none⟩=some (vA c0)∧w'.cell? ⟨w.heap.size+1+1,1,none⟩=some (vB c0)∧w'.cell? ⟨w.heap.size+1+1,2,none⟩=some (vC c0)∧w'.cell? ⟨w.heap.size+1+1,3,none⟩=some (vD c0)∧w'.cell? ⟨w.heap.size+1+1,4,none⟩=some (vE c0)∧w'.cell? ⟨w.heap.size+1+1,5,none⟩=some (vA c1)∧w'.cell? ⟨w.heap.size+1+1,6,none⟩=some (vB c1)∧w'.cell? ⟨w.heap.size+1+1,7,none⟩=some (vC c1)∧w'.cell? ⟨w.heap.size+1+1,8,none⟩=some (vD c1)∧w'.cell? ⟨w.heap.size+1+1,9,none⟩=some (vE c1))
   (first|(simp [go_sem, *];done))
   (first|((go_at_call_of 35 (Value.agg #[vA b0,vB b0,vC b0,vD b0,vE b0,vA b1,vB b1,vC b1,vD b1,vE b1]);refine(H1.out _).mono ?_;rintro e w1 ⟨rfl,hg1⟩;(try (with_reducible replace hg1:=Gr.of_drew hg1));have hsz1:=hg1.size;(try simp at hsz1);(try (have hq1_0:w0.heap.size<w1.heap.size:=(by omega)));(try (have hq1_1:w0.heap.size+1<w1.heap.size:=(by omega)));have hy1_0:w.heap.size<w1.heap.size:=(by omega);have hy1_1:w.heap.size+1<w1.heap.size:=(by omega);have hy1_2:w.heap.size+1+1<w1.heap.size:=(by omega);have hp1_1_0:w.heap.size<w1.heap.size+1:=(by omega);have hp1_1_1:w.heap.size+1<w1.heap.size+1:=(by omega);have hp1_1_2:w.heap.size+1+1<w1.heap.size+1:=(by omega);have hp1_2_0:w.heap.size<w1.heap.size+1+1:=(by omega);have hp1_2_1:w.heap.size+1<w1.heap.size+1+1:=(by omega);have hp1_2_2:w.heap.size+1+1<w1.heap.size+1+1:=(by omega);obtain ⟨hc1,hf1⟩:=hg1.cells;have HG1:=Lh hg1;clear hg1))|((go_at_call_of 35 (Value.agg #[vA c0,vB c0,vC c0,vD c0,vE c0,vA c1,vB c1,vC c1,vD c1,vE c1]);refine(H2.out _).mono ?_;rintro e w2 ⟨rfl,hg2⟩;(try (with_reducible replace hg2:=Gr.of_drew hg2));have hsz2:=hg2.size;(try simp at hsz2);(try (have hq2_0:w0.heap.size<w2.heap.size:=(by omega)));(try (have hq2_1:w0.heap.size+1<w2.heap.size:=(by omega)));(try (have hq2_2:w1.heap.size<w2.heap.size:=(by omega)));(try (have hq2_3:w1.heap.size+1<w2.heap.size:=(by omega)));have hy2_0:w.heap.size<w2.heap.size:=(by omega);have hy2_1:w.heap.size+1<w2.heap.size:=(by omega);have hy2_2:w.heap.size+1+1<w2.heap.size:=(by omega);have hp2_1_0:w.heap.size<w2.heap.size+1:=(by omega);have hp2_1_1:w.heap.size+1<w2.heap.size+1:=(by omega);have hp2_1_2:w.heap.size+1+1<w2.heap.size+1:=(by omega);have hp2_2_0:w.heap.size<w2.heap.size+1+1:=(by omega);have hp2_2_1:w.heap.size+1<w2.heap.size+1+1:=(by omega);have hp2_2_2:w.heap.size+1+1<w2.heap.size+1+1:=(by omega);obtain ⟨hc2,hf2⟩:=hg2.cells;have HG2:=Lh hg2;clear hg2)))
  all_goals (go_wp2_with fail;go_meet;(first|exact⟨_,_,rfl,rfl,by(with_reducible (repeat' (first|(refine VB.new' ?_;exact(by first|omega|(simp;done)|(simp;omega)))|apply VB.put10|refine VB.drew ?_|refine VB.far ?_ ?_ _|refine VB.alloc ?_ _|refine VB.gr ?_ HG2.out ?_|refine VB.gr ?_ HG1.out ?_|omega|(simp;done)|(simp;omega)))),by(with_reducible (repeat' (first|(refine VB.new' ?_;exact(by first|omega|(simp;done)|(simp;omega)))|apply VB.put10|refine VB.drew ?_|refine VB.far ?_ ?_ _|refine VB.alloc ?_ _|refine VB.gr ?_ HG2.out ?_|refine VB.gr ?_ HG1.out ?_|omega|(simp;done)|(simp;omega)))),by omega,by omega,by exact gcc HG2 (gcc HG1 gzz)⟩))
 case rest=>
  obtain ⟨wx,hw9⟩:∃q,q=wc:=⟨_,rfl⟩
  subst hw9
  obtain ⟨g7,g8,rfl,rfl,hV7,hV8,hg7,hg8,hgx⟩:=hcut
  have HV7:=Lh hV7
  have HV8:=Lh hV8
  have hl7:=hV7.lt
  have hl8:=hV8.lt
  have HZx:=Lh (HZ.out.gr hgx h30)
  have HGX:=Lh (HG0.out.trans (hgx.mono (by omega)))
  have h3x:=HZx.out.lt
  have HX0:=Lh (HB0.out.gr hgx (by omega))
  have HX1:=Lh (HB1.out.gr hgx (by omega))
  have HX2:=Lh (HB2.out.gr hgx (by omega))
  clear hV7 hV8 hgx HB0 HB1 HB2 HZ k00 k01 k02 k03 k04 k05 k06 k07 k08 k09 k10 k11 k12 k13 k14 k15 k16 k17 k18 k19 k20 k21 k22 k23 k24 k25 k26 k27 k28 k29
  have a0:=HV7.out.c 0 _ rfl
  have a1:=HV7.out.c 1 _ rfl
  have a2:=HV7.out.c 2 _ rfl
  have a3:=HV7.out.c 3 _ rfl
  have a4:=HV7.out.c 4 _ rfl
  have a5:=HV7.out.c 5 _ rfl
  have a6:=HV7.out.c 6 _ rfl
  have a7:=HV7.out.c 7 _ rfl
  have a8:=HV7.out.c 8 _ rfl
  have a9:=HV7.out.c 9 _ rfl
  have e0:=HV8.out.c 0 _ rfl
  have e1:=HV8.out.c 1 _ rfl
  have e2:=HV8.out.c 2 _ rfl
  have e3:=HV8.out.c 3 _ rfl
  have e4:=HV8.out.c 4 _ rfl
  have e5:=HV8.out.c 5 _ rfl
  have e6:=HV8.out.c 6 _ rfl
  have e7:=HV8.out.c 7 _ rfl
  have e8:=HV8.out.c 8 _ rfl
  have e9:=HV8.out.c 9 _ rfl
  have k00:=HX0.out.c 0 _ rfl
  have k01:=HX0.out.c 1 _ rfl
  have k02:=HX0.out.c 2 _ rfl
  have k03:=HX0.out.c 3 _ rfl
  have k04:=HX0.out.c 4 _ rfl
  have k05:=HX0.out.c 5 _ rfl
  have k06:=HX0.out.c 6 _ rfl
  have k07:=HX0.out.c 7 _ rfl
  have k08:=HX0.out.c 8 _ rfl
  have k09:=HX0.out.c 9 _ rfl
  have k10:=HX1.out.c 0 _ rfl
  have k11:=HX1.out.c 1 _ rfl
  have k12:=HX1.out.c 2 _ rfl
  have k13:=HX1.out.c 3 _ rfl
  have k14:=HX1.out.c 4 _ rfl
  have k15:=HX1.out.c 5 _ rfl
  have k16:=HX1.out.c 6 _ rfl
  have k17:=HX1.out.c 7 _ rfl
  have k18:=HX1.out.c 8 _ rfl
  have k19:=HX1.out.c 9 _ rfl
  have k20:=HX2.out.c 0 _ rfl
  have k21:=HX2.out.c 1 _ rfl
  have k22:=HX2.out.c 2 _ rfl
  have k23:=HX2.out.c 3 _ rfl
  have k24:=HX2.out.c 4 _ rfl
  have k25:=HX2.out.c 5 _ rfl
  have k26:=HX2.out.c 6 _ rfl
  have k27:=HX2.out.c 7 _ rfl
  have k28:=HX2.out.c 8 _ rfl
  have k29:=HX2.out.c 9 _ rfl
  have h0x:w.heap.size<wx.heap.size:=by omega
  have h1x:w.heap.size+1<wx.heap.size:=by omega
  have h2x:w.heap.size+1+1<wx.heap.size:=by omega
  go_wp2_with fail
  (refine rtv (H3.out _ (by exact gcc HGX gzz)) fun w11 v11 HS11 hsz11 hl11 hc11 hf11 HG11=>?_;(try simp at hsz11))
  obtain ⟨al,cl,rfl⟩:=HS11.out.at
  go_wp2_with fail
  (refine rtu (H4.out _) fun w12 hsz12 hl12 hc12 hf12 HG12=>?_;(try simp at hsz12))
  go_wp2_with fail
  (refine rtu (H5.out _ _ ((HS11.out.mono (Nat.zero_le _)).gr (by exact gcc HG12 gzz))) fun w13 hsz13 hl13 hc13 hf13 HG13=>?_;(try simp at hsz13))
  go_wp2_with fail
  (refine rtu (H6.out _) fun w14 hsz14 hl14 hc14 hf14 HG14=>?_;(try simp at hsz14))
  have HZ9:=Lh (show VB w14 (w.heap.size+1+1+1) [zU,zS,.bool false,zU,zS]from by exact vbc HG14 (vbc HG13 (vbc HG12 (vbc HG11 HZx.out))))
  obtain ⟨r0,r1,r2,r3,r4,-⟩:=HZ9.out.five
  have f0:=HZ9.out.f 0 (by simp)
  have f1:=HZ9.out.f 1 (by simp)
  have f2:=HZ9.out.f 2 (by simp)
  have f3:=HZ9.out.f 3 (by simp)
  have f4:=HZ9.out.f 4 (by simp)
  clear a0 e0 a1 e1 a2 e2 a3 e3 a4 e4 a5 e5 a6 e6 a7 e7 a8 e8 a9 e9 k00 k01 k02 k03 k04 k05 k06 k07 k08 k09 k10 k11 k12 k13 k14 k15 k16 k17 k18 k19 k20 k21 k22 k23 k24 k25 k26 k27 k28 k29 hc11 hf11 hc12 hf12 hc13 hf13 hc14 hf14 HX0 HX1 HX2 HV7 HV8
  go_wp2
  refine ret_row (w:=w14.setCells (w.heap.size+1+1+1) 0 [vA r,vB r,vC r,vD r,vE r]) (g:=w.heap.size+1+1+1) Tryz.results26 rfl (VB.set (cs:= [zU,zS,.bool false,zU,zS]) HZ9.out [vA r,vB r,vC r,vD r,vE r] rfl) Tryz.underlying59 rfl info_Frac rfl ⟨rfl,?_⟩
  exact Gr.sets (show w.heap.size≤w.heap.size+1+1+1 by omega) [vA r,vB r,vC r,vD r,vE r] 0 (by exact gcc HG14 (gcc HG13 (gcc HG12 (gcc HG11 (gcc HGX gzz)))))
end Go.Proofs.YtfgmdhjmgdccdaaGreat
