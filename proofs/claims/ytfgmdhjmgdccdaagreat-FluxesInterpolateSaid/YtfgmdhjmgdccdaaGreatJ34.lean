/-
  Part 34 of the proof: Ita Itb Itc.
-/
import Derived.Test.YtfgmdhjmgdccdaaGreatJ30
import Derived.Test.YtfgmdhjmgdccdaaGreatJ33
set_option linter.unusedSimpArgs false
set_option linter.unusedVariables false
set_option maxHeartbeats 8000000
namespace Go.Proofs.YtfgmdhjmgdccdaaGreat
open Go.RowKit Gus Go.Maps
abbrev f2V (a b:Rat):Value:= .agg #[vA a,vB a,vC a,vD a,vE a,vA b,vB b,vC b,vD b,vE b]
abbrev f2C (a b:Rat):List Value:= [vA a,vB a,vC a,vD a,vE a,vA b,vB b,vC b,vD b,vE b]
theorem info_F2:(Tryz.prog.info? 61).map (·.size)=some 10:=by kernel_rfl
set_option maxRecDepth 20000 in
theorem less_raw (b0 b1 a0 a1 c0 c1:Rat) (w:World) (h0:∀W,Calls Tryz.prog 36 #[fracV b0,fracV a0] W (Ret W (fracV c0))) (h1:∀W,Calls Tryz.prog 36 #[fracV b1,fracV a1] W (Ret W (fracV c1))):
  Calls Tryz.prog 35 #[f2V b0 b1,f2V a0 a1] w (Ret w (f2V c0 c1)):=by
 have H0:=Lh h0
 have H1:=Lh h1
 clear h0 h1
 go_enter Tryz.func35,Tryz.ntmps35
 go_upto_region 1 with fail
 refine wp_region_held_drew (S:=(fun w'=>w'.cell? ⟨w.heap.size,0,none⟩=some (vA b0)∧w'.cell? ⟨w.heap.size,1,none⟩=some (vB b0)∧w'.cell? ⟨w.heap.size,2,none⟩=some (vC b0)∧w'.cell? ⟨w.heap.size,3,none⟩=some (vD b0)∧w'.cell? ⟨w.heap.size,4,none⟩=some (vE b0)∧w'.cell? ⟨w.heap.size,5,none⟩=some (vA b1)∧w'.cell? ⟨w.heap.size,6,none⟩=some (vB b1)∧w'.cell? ⟨w.heap.size,7,none⟩=some (vC b1)∧w'.cell? ⟨w.heap.size,8,none⟩=some (vD b1)∧w'.cell? ⟨w.heap.size,9,none⟩=some (vE b1)∧w'.cell? ⟨w.heap.size+1,0,none⟩=some (vA a0)∧w'.cell? ⟨w.heap.size+1,1,none⟩=some (vB a0)∧w'.cell? ⟨w.heap.size+1,2,none⟩=some (vC a0)∧w'.cell? ⟨w.heap.size+1,3,none⟩=some (vD a0)∧w'.cell? ⟨w.heap.size+1,4,none⟩=some (vE a0)∧w'.cell? ⟨w.heap.size+1,5,none⟩=some (vA a1)∧w'.cell? ⟨w.heap.size+1,6,none⟩=some (vB a1)∧w'.cell? ⟨w.heap.size+1,7,none⟩=some (vC a1)∧w'.cell? ⟨w.heap.size+1,8,none⟩=some (vD a1)∧w'.cell? ⟨w.heap.size+1,9,none⟩=some (vE a1))) (by kernel_rfl) ?_ (fun hHeld=>?_)
 ·simp [go_sem, *]
 refine tq 0 5 (.pointer (some ⟨w.heap.size,0,none⟩)) ?_
 refine tq 1 6 (fracV b0) ?_
 refine tq 2 7 (.pointer (some ⟨w.heap.size+1,0,none⟩)) ?_
 refine tq 3 8 (fracV a0) ?_
 refine tq 5 10 (.pointer (some ⟨w.heap.size,5,none⟩)) ?_
 refine tq 6 11 (fracV b1) ?_
 refine tq 7 12 (.pointer (some ⟨w.heap.size+1,5,none⟩)) ?_
 refine tq 8 13 (fracV a1) ?_
 refine rd 4 (fun K hK=>?_)
 go_simp
 (refine rtt (H0.out _) fun w1 hsz1 hc1 hf1 HG1=>?_;(try simp at hsz1);have hz1_0:w.heap.size<w1.heap.size:=(by omega);have hz1_1:w.heap.size+1<w1.heap.size:=(by omega);have hz1_2:w.heap.size+1+1<w1.heap.size:=(by omega))
 refine kO hK fun hQ1=>?_
 clear hK K hHeld
 refine rd 9 (fun K hK=>?_)
 go_simp
 (refine rtt (H1.out _) fun w2 hsz2 hc2 hf2 HG2=>?_;(try simp at hsz2);have hz2_0:w.heap.size<w2.heap.size:=(by omega);have hz2_1:w.heap.size+1<w2.heap.size:=(by omega);have hz2_2:w.heap.size+1+1<w2.heap.size:=(by omega))
 refine kO hK fun hQ2=>?_
 clear hK K hQ1
 refine tq 10 15 (.agg #[vA c0,vB c0,vC c0,vD c0,vE c0,vA c1,vB c1,vC c1,vD c1,vE c1]) ?_
 refine wpAnyH_ready (rs:= [11]) (by kernel_rfl) (by simp) ?_
 refine AllReadyH.cons (o:=⟨none,_,_,_,_,_⟩) rfl (fun K hK=>?_) AllReadyH.nil
 rw [if_pos (by rfl)]
 refine wp_store_mid 61 _ _ rfl (w.heap.size+1+1) 0 (List.toArray [vA c0,vB c0,vC c0,vD c0,vE c0,vA c1,vB c1,vC c1,vD c1,vE c1]) rfl rfl (VB.there (cs:= [zU,zS,.bool false,zU,zS,zU,zS,.bool false,zU,zS]) ?_) info_F2 (by first|rfl|simp [Value.oneCell']) ?_
 ·exact vbc HG2 (vbc HG1 vbb)
 simp only [pS]
 refine hK.out _ _ ?_ (fun hQ3=>?_)
 ·have hh:=hQ2;(try dsimp only at hh ⊢);simp only [cell_sets_ne (show w.heap.size≠w.heap.size+1+1 by omega),cell_sets_ne (show w.heap.size+1≠w.heap.size+1+1 by omega)];exact hh
 clear hK K hQ2
 refine wpAnyH_done (by kernel_rfl) ?_ _
 go_wp2
 refine ret_row (g:=w.heap.size+1+1) Tryz.results35 rfl (VB.set (cs:= [zU,zS,.bool false,zU,zS,zU,zS,.bool false,zU,zS]) ?_ (f2C c0 c1) rfl) Tryz.underlying61 rfl info_F2 rfl ⟨rfl,?_⟩
 ·exact vbc HG2 (vbc HG1 vbb)
 ·exact Gr.sets (by omega) _ _ (by exact gcc HG2 (gcc HG1 gzz))
theorem it_less (b0 b1 a0 a1:Rat) (w:World) (h:hw b0≤10000000000∧hw b1≤10000000000∧hw a0≤10000000000∧hw a1≤10000000000):Calls Tryz.prog 35 #[f2V b0 b1,f2V a0 a1] w (Ret w (f2V (b0 - a0) (b1 - a1))):=
 less_raw b0 b1 a0 a1 _ _ w (fun W=>fr_Sub b0 a0 W (by omega) (by omega)) (fun W=>fr_Sub b1 a1 W (by omega) (by omega))
def psi (i:Nat):Rat:=((1:Int):Rat) / (((i+1:Nat):Int):Rat)
set_option maxRecDepth 20000 in
theorem seg1_raw (i j:Nat) (q:Rat) (w:World) (hi:i≤12) (h:∀W,Calls Tryz.prog 29 #[.int .i64 1,.int .i64 ((i+1:Nat):Int)] W (Ret W (.tuple #[fracV q,.int .i64 0]))):Calls Tryz.prog 83 #[.int .i64 (i:Int),.int .i64 (j:Int)] w (Ret w (fracV q)):=by
 obtain ⟨k,hk⟩:∃k,i+1=k:=⟨_,rfl⟩
 rw [hk]at h
 have HO:=Lh h
 have z1:IntKind.i64.wrap ((i:Int)+1)=(k:Int):=by rw [wrap64_id (by omega) (by omega)];omega
 clear h hk hi
 go_enter Tryz.func83,Tryz.ntmps83
 go_wp2_with fail
 (refine rtu (HO.out _) fun w1 hsz1 hl1 hc1 hf1 HG1=>?_;(try simp at hsz1))
 go_wp2
 refine ret_row (g:=w.heap.size) Tryz.results83 rfl (VB.alloc (VB.set (cs:= [zU,zS,.bool false,zU,zS]) ?_ [vA q,vB q,vC q,vD q,vE q] rfl) _) Tryz.underlying59 rfl info_Frac rfl ⟨rfl,?_⟩
 ·exact vbc HG1 vbb
 ·exact gcc HG1 gzz
theorem it_seg1 (i j:Nat) (w:World) (hi:i≤12):Calls Tryz.prog 83 #[.int .i64 (i:Int),.int .i64 (j:Int)] w (Ret w (fracV (psi i))):=
 seg1_raw i j _ w hi (fun W=>fr_Of 1 ((i+1:Nat):Int) W (by omega) (by omega) (by omega) (by omega) (by omega))
theorem hw_psi {i:Nat} (h:i≤12):hw (psi i)≤10:=by
 have key:∀i,i<13→hw (psi i)≤10:=by decide+kernel
 exact key i (by omega)
def sumV (l:List T):Rat:=l.foldl (fun acc t=>acc+t.c*psi t.i) 0
theorem sumV_snoc (l:List T) (t:T):sumV (l++ [t])=sumV l+t.c*psi t.i:=by unfold sumV;rw [List.foldl_append];rfl
theorem hw_sumV {l:List T} (hok:∀t∈l,t.ok):∀n,n≤l.length→hw (sumV (l.take n))≤12*tot (l.take n)+10
 | 0,_=>by show hw (0:Rat)≤_;have:hw (0:Rat)≤10:=by decide+kernel
           omega
 | n+1,hn=>by
  have ih:=hw_sumV hok n (by omega)
  have hlt:n<l.length:=by omega
  have e:l.take (n+1)=l.take n++ [l[n]]:=by rw [List.take_add_one,List.getElem?_eq_getElem hlt];rfl
  have h0:l[n].i+l[n].j≤12:=hok _ (List.getElem_mem hlt)
  have h1:=hw_psi (i:=l[n].i) (by omega)
  have h2:=hw_mul l[n].c (psi l[n].i)
  have h3:=hw_add (sumV (l.take n)) (l[n].c*psi l[n].i)
  rw [e,sumV_snoc,tot_append]
  simp only [tot]
  omega
end Go.Proofs.YtfgmdhjmgdccdaaGreat
namespace Go.Proofs.YtfgmdhjmgdccdaaGreat
open Go.RowKit Gus Go.Maps
theorem zero_cells:([.int .u64 (lowN (sz (0:Rat).num)),.string (bigS (sz (0:Rat).num)),.bool (ng (0:Rat).num),.int .u64 (lowN (fm (0:Rat))),.string (bigS (fm (0:Rat)))]:List Value)= [zU,zS,.bool false,zU,zS]:=by
 obtain ⟨e1,e2,e3,e4,e5⟩:lowN (sz (0:Rat).num)=0∧bigS (sz (0:Rat).num)=⟨#[]⟩∧ng (0:Rat).num=false∧lowN (fm 0)=0∧bigS (fm 0)=⟨#[]⟩:=by decide+kernel
 rw [e1,e2,e3,e4,e5]
 rfl
set_option maxRecDepth 20000 in
theorem it_sum (l:List T) (v:Value) (w:World) (hS:PL w 0 v l) (hok:∀t∈l,t.ok) (ht:tot l≤6000000000):Calls Tryz.prog 64 #[v,.func (.func 83) #[] #[]] w (Ret w (fracV (sumV l))):=by
 obtain ⟨al,cl,rfl⟩:=hS.at
 have HS:=Lh hS
 have hlen:=tot_len l
 have HOK:=Lh hok
 have HH:=Lh (hw_sumV hok)
 clear hS hok
 go_enter Tryz.func64,Tryz.ntmps64
 go_wp2
 have HZ:=Lh (show VB (w.alloc (.cells #[zU,zS,.bool false,zU,zS] 59)) w.heap.size [zU,zS,.bool false,zU,zS]from by exact vbb)
 have hz0:=zero_cells
 go_loopw [9] (fun s wr=> ∃n:Nat,s= .int .i64 n∧n≤l.length∧Hid (VB wr w.heap.size [.int .u64 (lowN (sz (sumV (l.take n)).num)),.string (bigS (sz (sumV (l.take n)).num)),.bool (ng (sumV (l.take n)).num),.int .u64 (lowN (fm (sumV (l.take n)))),.string (bigS (fm (sumV (l.take n))))])∧Hid (Gr w.heap.size w wr)) (fun s _=>l.length - (intOf s).toNat)
 case atStart=>exact⟨0,rfl,Nat.zero_le _,Lh (by show VB _ _ [.int .u64 (lowN (sz (0:Rat).num)),.string (bigS (sz (0:Rat).num)),.bool (ng (0:Rat).num),.int .u64 (lowN (fm (0:Rat))),.string (bigS (fm (0:Rat)))];rw [hz0];exact HZ.out),Lh (by exact gzz)⟩
 case round=>
  clear HZ hz0
  obtain ⟨n,rfl,hn,HV,HQ⟩:=hrel
  have hszr:=HQ.out.size
  have hvl:=HV.out.lt
  have hh:=HH.out n hn
  have htt:=tot_take l n
  obtain ⟨q,hq⟩:∃q,sumV (l.take n)=q:=⟨_,rfl⟩
  by_cases hlt:n<l.length
  ·obtain ⟨t,ht9⟩:∃t,l[n]=t:=⟨_,rfl⟩
   have htm:t∈l:=ht9 ▸ List.getElem_mem hlt
   have hto:t.i+t.j≤12:=HOK.out t htm
   have htc:=tot_mem htm
   obtain ⟨g,cap',e1,_,_,_,hsh,hR⟩:=(HS.out.gr HQ.out).block (by intro e;rw [e]at hlt;simp at hlt)
   injection e1 with e1 e3 e2
   clear e3
   subst e1 e2
   obtain ⟨a0,a1,a2,a3,a4,a5,a6⟩:=hR.term hlt ht9
   have hg9:=hsh.lt
   have HSG:=Lh (fun W=>it_seg1 t.i t.j W (by omega))
   have hps:=hw_psi (i:=t.i) (by omega)
   have HM:=Lh (fun W=>fr_Mul t.c (psi t.i) W (by omega) (by omega))
   have hm2:=hw_mul t.c (psi t.i)
   rw [hq]at hh
   have HA:=Lh (fun W=>fr_Add q (t.c*psi t.i) W (by omega) (by omega))
   have HNX:=Lh (show sumV (l.take (n+1))=q+t.c*psi t.i from by rw [List.take_add_one,List.getElem?_eq_getElem hlt,ht9];show sumV (l.take n++ [t])=_;rw [sumV_snoc,hq])
   obtain ⟨r,hr⟩:∃r,psi t.i=r:=⟨_,rfl⟩
   rw [hr]at HSG HM HA HNX
   obtain ⟨s,hs⟩:∃s,t.c*r=s:=⟨_,rfl⟩
   rw [hs]at HM HA HNX
   obtain ⟨u,hu⟩:∃u,q+s=u:=⟨_,rfl⟩
   rw [hu]at HA HNX
   rw [hq]at HV
   clear hR hsh ht9 htm hto htc hps hm2 hh htt hq hr hs hu
   go_upto_region 4 with fail
   have HTB:=Lh (show VB (wr.alloc (.cells #[.int .i64 (t.i:Int),.int .i64 (t.j:Int),vA t.c,vB t.c,vC t.c,vD t.c,vE t.c] 111)) wr.heap.size (tC t)from by exact vbb)
   have HVT:=Lh (show VB (wr.alloc (.cells #[.int .i64 (t.i:Int),.int .i64 (t.j:Int),vA t.c,vB t.c,vC t.c,vD t.c,vE t.c] 111)) w.heap.size [vA q,vB q,vC q,vD q,vE q]from HV.out.alloc _)
   have HGT:=Lh (show Gr w.heap.size w (wr.alloc (.cells #[.int .i64 (t.i:Int),.int .i64 (t.j:Int),vA t.c,vB t.c,vC t.c,vD t.c,vE t.c] 111))from by exact gcc HQ gzz)
   have hz11:(wr.alloc (.cells #[.int .i64 (t.i:Int),.int .i64 (t.j:Int),vA t.c,vB t.c,vC t.c,vD t.c,vE t.c] 111)).heap.size=wr.heap.size+1:=by simp
   generalize (wr.alloc (.cells #[.int .i64 (t.i:Int),.int .i64 (t.j:Int),vA t.c,vB t.c,vC t.c,vD t.c,vE t.c] 111))=wt at *
   obtain ⟨tb,htb⟩:∃q,wr.heap.size=q:=⟨_,rfl⟩
   rw [htb]at HTB hz11 hvl hszr ⊢
   have htbt:tb<wt.heap.size:=by omega
   have hvt:w.heap.size<wt.heap.size:=by omega
   have hnt:w.heap.size≠tb:=by omega
   clear a0 a1 a2 a3 a4 a5 a6 HV HQ hg9
   obtain ⟨v0,v1,v2,v3,v4,v5,v6⟩:=HTB.out.seven
   obtain ⟨p0,p1,p2,p3,p4,-⟩:=HVT.out.five
   refine wp_region_L 11 (S:=(fun w'=>w'.cell? ⟨tb,0,none⟩=some (.int .i64 (t.i:Int))∧w'.cell? ⟨tb,1,none⟩=some (.int .i64 (t.j:Int))∧w'.cell? ⟨tb,2,none⟩=some (vA t.c)∧w'.cell? ⟨tb,3,none⟩=some (vB t.c)∧w'.cell? ⟨tb,4,none⟩=some (vC t.c)∧w'.cell? ⟨tb,5,none⟩=some (vD t.c)∧w'.cell? ⟨tb,6,none⟩=some (vE t.c)∧w'.cell? ⟨w.heap.size,0,none⟩=some (vA q)∧w'.cell? ⟨w.heap.size,1,none⟩=some (vB q)∧w'.cell? ⟨w.heap.size,2,none⟩=some (vC q)∧w'.cell? ⟨w.heap.size,3,none⟩=some (vD q)∧w'.cell? ⟨w.heap.size,4,none⟩=some (vE q))) (by kernel_rfl) ?_ (fun hHeld=>?_)
   ·simp [go_sem, *]
   refine tkL 0 (some 13) (fracV q) ?_
   try simp only [pS]
   refine tkL 1 (some 14) (.pointer (some ⟨tb,2,none⟩)) ?_
   try simp only [pS]
   refine tkL 2 (some 15) (fracV t.c) ?_
   try simp only [pS]
   refine tkL 3 (some 16) (.func (.func 83) #[] #[]) ?_
   try simp only [pS]
   refine tkL 4 (some 17) (.pointer (some ⟨tb,0,none⟩)) ?_
   try simp only [pS]
   refine tkL 5 (some 18) (.int .i64 (t.i:Int)) ?_
   try simp only [pS]
   refine tkL 6 (some 19) (.pointer (some ⟨tb,1,none⟩)) ?_
   try simp only [pS]
   refine tkL 7 (some 20) (.int .i64 (t.j:Int)) ?_
   try simp only [pS]
   refine rdL 8 (fun K hK=>?_)
   go_simp
   (refine rtt (HSG.out _) fun w5 hsz5 hc5 hf5 HG5=>?_;(try simp at hsz5);have hy5_0:tb<w5.heap.size:=(by omega);have hy5_1:w.heap.size<w5.heap.size:=(by omega))
   refine kO hK fun hQ1=>?_
   clear hK K hHeld
   refine rdL 9 (fun K hK=>?_)
   go_simp
   (refine rtt (HM.out _) fun w6 hsz6 hc6 hf6 HG6=>?_;(try simp at hsz6);have hy6_0:tb<w6.heap.size:=(by omega);have hy6_1:w.heap.size<w6.heap.size:=(by omega))
   refine kO hK fun hQ2=>?_
   clear hK K hQ1
   refine rdL 10 (fun K hK=>?_)
   go_simp
   (refine rtt (HA.out _) fun w7 hsz7 hc7 hf7 HG7=>?_;(try simp at hsz7);have hy7_0:tb<w7.heap.size:=(by omega);have hy7_1:w.heap.size<w7.heap.size:=(by omega))
   refine kO hK fun hQ3=>?_
   clear hK K hQ2
   have HV7:=Lh (show VB w7 w.heap.size [vA q,vB q,vC q,vD q,vE q]from by exact vbc HG7 (vbc HG6 (vbc HG5 HVT.out)))
   obtain ⟨r0,r1,r2,r3,r4,-⟩:=HV7.out.five
   have e0:=HV7.out.f 0 (by simp)
   have e1:=HV7.out.f 1 (by simp)
   have e2:=HV7.out.f 2 (by simp)
   have e3:=HV7.out.f 3 (by simp)
   have e4:=HV7.out.f 4 (by simp)
   clear hc5 hf5 hc6 hf6 hc7 hf7 v0 v1 v2 v3 v4 v5 v6 p0 p1 p2 p3 p4 hQ3
   refine rdE 11 (fun K hK=>?_)
   go_simp
   (try dsimp only)
   refine hK.out _ _ ?_
   clear hK K
   try simp only [pS]
   refine AnyL.done (by kernel_rfl) ?_ _
   clear r0 r1 r2 r3 r4 e0 e1 e2 e3 e4
   have hs7:=HG7.out.size
   have hs6:=HG6.out.size
   have hs5:=HG5.out.size
   have HG9:=Lh (show Gr w.heap.size w w7 from by exact gcc HG7 (gcc HG6 (gcc HG5 (gcc HGT gzz))))
   go_wp2
   go_roundw
   case rel=>exact⟨n+1,by go_num,by omega,Lh (by rw [HNX.out];exact HV7.out.put5),Lh (by exact gcc HG9 gzz)⟩
   case measure=>simp [intOf];omega
  ·obtain rfl:n=l.length:=by omega
   have hS9:=hq
   rw [List.take_length]at hS9
   rw [hq]at HV
   obtain ⟨p0,p1,p2,p3,p4,-⟩:=HV.out.five
   have e0:=HV.out.f 0 (by simp)
   have e1:=HV.out.f 1 (by simp)
   have e2:=HV.out.f 2 (by simp)
   have e3:=HV.out.f 3 (by simp)
   have e4:=HV.out.f 4 (by simp)
   have HS9:=Lh hS9
   clear hS9 hq hh htt
   go_wp2
   refine ret_row (g:=w.heap.size) Tryz.results64 rfl (VB.set (cs:= [vA q,vB q,vC q,vD q,vE q]) HV.out [vA q,vB q,vC q,vD q,vE q] rfl) Tryz.underlying59 rfl info_Frac rfl ⟨?_,?_⟩
   ·rw [HS9.out]
   ·exact gcc HQ gzz
end Go.Proofs.YtfgmdhjmgdccdaaGreat
namespace Go.Proofs.YtfgmdhjmgdccdaaGreat
open Go.RowKit Gus Go.Maps
set_option maxRecDepth 20000 in
theorem Seg_raw (a0 a1 b0 b1 u0 u1 r:Rat) (S:List T) (v:Value) (w:World) (hL:∀W,Calls Tryz.prog 35 #[f2V b0 b1,f2V a0 a1] W (Ret W (f2V u0 u1))) (hSh:∀W,Gr w.heap.size w W→Calls Tryz.prog 60 #[v,fracV u0,.agg #[zU,zS,.bool false,zU,zS],fracV a0,fracV u1,.agg #[zU,zS,.bool false,zU,zS],fracV a1] W (RetP W S)) (hSum:∀W u,PL W 0 u S→Calls Tryz.prog 64 #[u,.func (.func 83) #[] #[]] W (Ret W (fracV r))):
  Calls Tryz.prog 38 #[v,f2V a0 a1,f2V b0 b1] w (Ret w (fracV r)):=by
 have HL:=Lh hL
 have HSH:=Lh hSh
 have HSUM:=Lh hSum
 clear hL hSh hSum
 go_enter Tryz.func38,Tryz.ntmps38
 go_wp2_with fail
 (refine rtt (HL.out _) fun w1 hsz1 hc1 hf1 HG1=>?_;(try simp at hsz1);have hz1_0:w.heap.size<w1.heap.size:=(by omega);have hz1_1:w.heap.size+1<w1.heap.size:=(by omega);have hz1_2:w.heap.size+1+1<w1.heap.size:=(by omega))
 go_wp2_with fail
 refine(HSH.out _ (by(with_reducible (repeat' (first|exact Gr.refl _ _|refine Gr.drew ?_|refine Gr.setCell ?_ ?_ _|refine Gr.alloc ?_ ?_ _|refine Gr.trans ?_ (Gr.mono HG1.out ?_)|omega|(simp;done)|(simp;omega)))))).mono ?_
 rintro e w2 ⟨v2,rfl,hS2,hg2⟩
 have hsz2:=hg2.size
 (try simp at hsz2)
 obtain ⟨hc2,hf2⟩:=hg2.cells
 have hz2_2:w.heap.size+1+1<w2.heap.size:=by omega
 have HG2:=Lh hg2
 have HS2:=Lh hS2
 clear hg2 hS2
 go_wp2_with fail
 refine(HSUM.out _ _ (HS2.out.mono (Nat.zero_le _))).mono ?_
 rintro e w3 ⟨rfl,hg3⟩
 have hsz3:=hg3.size
 obtain ⟨hc3,hf3⟩:=hg3.cells
 have hz3_2:w.heap.size+1+1<w3.heap.size:=by omega
 have HG3:=Lh hg3
 clear hg3
 go_wp2
 refine ret_row (g:=w.heap.size+1+1) Tryz.results38 rfl (VB.set (cs:= [zU,zS,.bool false,zU,zS]) ?_ [vA r,vB r,vC r,vD r,vE r] rfl) Tryz.underlying59 rfl info_Frac rfl ⟨rfl,?_⟩
 ·exact vbc HG3 (vbc HG2 (vbc HG1 vbb))
 ·exact gcc HG3 (gcc HG2 (gcc HG1 gzz))
set_option maxRecDepth 20000 in
theorem Flow_raw (a0 a1 b0 b1 u0 u1 s0 s1 m0 m1 r:Rat) (gx gy:Value) (w:World) (hL:∀W,Calls Tryz.prog 35 #[f2V b0 b1,f2V a0 a1] W (Ret W (f2V u0 u1))) (hX:∀W,Gr w.heap.size w W→Calls Tryz.prog 38 #[gx,f2V a0 a1,f2V b0 b1] W (Ret W (fracV s0))) (hY:∀W,Gr w.heap.size w W→Calls Tryz.prog 38 #[gy,f2V a0 a1,f2V b0 b1] W (Ret W (fracV s1))) (h0:∀W,Calls Tryz.prog 37 #[fracV u1,fracV s0] W (Ret W (fracV m0))) (h1:∀W,Calls Tryz.prog 37 #[fracV u0,fracV s1] W (Ret W (fracV m1))) (h2:∀W,Calls Tryz.prog 36 #[fracV m0,fracV m1] W (Ret W (fracV r))):
  Calls Tryz.prog 9 #[gx,gy,f2V a0 a1,f2V b0 b1] w (Ret w (fracV r)):=by
 have HL:=Lh hL
 have HX:=Lh hX
 have HY:=Lh hY
 have H0:=Lh h0
 have H1:=Lh h1
 have H2:=Lh h2
 clear hL hX hY h0 h1 h2
 go_enter Tryz.func9,Tryz.ntmps9
 go_wp2_with fail
 (refine rtt (HL.out _) fun w1 hsz1 hc1 hf1 HG1=>?_;(try simp at hsz1);have hz1_0:w.heap.size<w1.heap.size:=(by omega);have hz1_1:w.heap.size+1<w1.heap.size:=(by omega);have hz1_2:w.heap.size+1+1<w1.heap.size:=(by omega))
 go_upto_region 2 with fail
 refine wp_region_held_drew (S:=(fun w'=>w'.cell? ⟨w.heap.size,0,none⟩=some (vA a0)∧w'.cell? ⟨w.heap.size,1,none⟩=some (vB a0)∧w'.cell? ⟨w.heap.size,2,none⟩=some (vC a0)∧w'.cell? ⟨w.heap.size,3,none⟩=some (vD a0)∧w'.cell? ⟨w.heap.size,4,none⟩=some (vE a0)∧w'.cell? ⟨w.heap.size,5,none⟩=some (vA a1)∧w'.cell? ⟨w.heap.size,6,none⟩=some (vB a1)∧w'.cell? ⟨w.heap.size,7,none⟩=some (vC a1)∧w'.cell? ⟨w.heap.size,8,none⟩=some (vD a1)∧w'.cell? ⟨w.heap.size,9,none⟩=some (vE a1)∧w'.cell? ⟨w.heap.size+1,0,none⟩=some (vA b0)∧w'.cell? ⟨w.heap.size+1,1,none⟩=some (vB b0)∧w'.cell? ⟨w.heap.size+1,2,none⟩=some (vC b0)∧w'.cell? ⟨w.heap.size+1,3,none⟩=some (vD b0)∧w'.cell? ⟨w.heap.size+1,4,none⟩=some (vE b0)∧w'.cell? ⟨w.heap.size+1,5,none⟩=some (vA b1)∧w'.cell? ⟨w.heap.size+1,6,none⟩=some (vB b1)∧w'.cell? ⟨w.heap.size+1,7,none⟩=some (vC b1)∧w'.cell? ⟨w.heap.size+1,8,none⟩=some (vD b1)∧w'.cell? ⟨w.heap.size+1,9,none⟩=some (vE b1)∧w'.cell? ⟨w1.heap.size,0,none⟩=some (vA u0)∧w'.cell? ⟨w1.heap.size,1,none⟩=some (vB u0)∧w'.cell? ⟨w1.heap.size,2,none⟩=some (vC u0)∧w'.cell? ⟨w1.heap.size,3,none⟩=some (vD u0)∧w'.cell? ⟨w1.heap.size,4,none⟩=some (vE u0)∧w'.cell? ⟨w1.heap.size,5,none⟩=some (vA u1)∧w'.cell? ⟨w1.heap.size,6,none⟩=some (vB u1)∧w'.cell? ⟨w1.heap.size,7,none⟩=some (vC u1)∧w'.cell? ⟨w1.heap.size,8,none⟩=some (vD u1)∧w'.cell? ⟨w1.heap.size,9,none⟩=some (vE u1))) (by kernel_rfl) ?_ (fun hHeld=>?_)
 ·simp [go_sem, *]
 refine tq 0 13 (.pointer (some ⟨w1.heap.size,5,none⟩)) ?_
 refine tq 1 14 (fracV u1) ?_
 refine tq 2 15 (gx) ?_
 refine tq 3 16 (.agg #[vA a0,vB a0,vC a0,vD a0,vE a0,vA a1,vB a1,vC a1,vD a1,vE a1]) ?_
 refine tq 4 17 (.agg #[vA b0,vB b0,vC b0,vD b0,vE b0,vA b1,vB b1,vC b1,vD b1,vE b1]) ?_
 refine tq 7 20 (.pointer (some ⟨w1.heap.size,0,none⟩)) ?_
 refine tq 8 21 (fracV u0) ?_
 refine tq 9 22 (gy) ?_
 refine tq 10 23 (.agg #[vA a0,vB a0,vC a0,vD a0,vE a0,vA a1,vB a1,vC a1,vD a1,vE a1]) ?_
 refine tq 11 24 (.agg #[vA b0,vB b0,vC b0,vD b0,vE b0,vA b1,vB b1,vC b1,vD b1,vE b1]) ?_
 refine rd 5 (fun K hK=>?_)
 go_simp
 (refine rtt (HX.out _ (by exact gcc HG1 gzz)) fun w3 hsz3 hc3 hf3 HG3=>?_;(try simp at hsz3);have hy3_0:w1.heap.size<w3.heap.size:=(by omega);have hz3_0:w.heap.size<w3.heap.size:=(by omega);have hz3_1:w.heap.size+1<w3.heap.size:=(by omega);have hz3_2:w.heap.size+1+1<w3.heap.size:=(by omega))
 (try dsimp only)
 refine hK.out _ _ ?_ (fun hQ1=>?_)
 ·(first|exact trivial|((try dsimp only);simp [go_sem, *]))
 clear hK K hHeld
 try simp only [pS]
 refine rd 6 (fun K hK=>?_)
 go_simp
 (refine rtt (H0.out _) fun w4 hsz4 hc4 hf4 HG4=>?_;(try simp at hsz4);have hy4_0:w1.heap.size<w4.heap.size:=(by omega);have hz4_0:w.heap.size<w4.heap.size:=(by omega);have hz4_1:w.heap.size+1<w4.heap.size:=(by omega);have hz4_2:w.heap.size+1+1<w4.heap.size:=(by omega))
 (try dsimp only)
 refine hK.out _ _ ?_ (fun hQ2=>?_)
 ·(first|exact trivial|((try dsimp only);simp [go_sem, *]))
 clear hK K hQ1
 try simp only [pS]
 refine rd 12 (fun K hK=>?_)
 go_simp
 (refine rtt (HY.out _ (by exact gcc HG4 (gcc HG3 (gcc HG1 gzz)))) fun w5 hsz5 hc5 hf5 HG5=>?_;(try simp at hsz5);have hy5_0:w1.heap.size<w5.heap.size:=(by omega);have hz5_0:w.heap.size<w5.heap.size:=(by omega);have hz5_1:w.heap.size+1<w5.heap.size:=(by omega);have hz5_2:w.heap.size+1+1<w5.heap.size:=(by omega))
 (try dsimp only)
 refine hK.out _ _ ?_ (fun hQ3=>?_)
 ·(first|exact trivial|((try dsimp only);simp [go_sem, *]))
 clear hK K hQ2
 try simp only [pS]
 refine rd 13 (fun K hK=>?_)
 go_simp
 (refine rtt (H1.out _) fun w6 hsz6 hc6 hf6 HG6=>?_;(try simp at hsz6);have hy6_0:w1.heap.size<w6.heap.size:=(by omega);have hz6_0:w.heap.size<w6.heap.size:=(by omega);have hz6_1:w.heap.size+1<w6.heap.size:=(by omega);have hz6_2:w.heap.size+1+1<w6.heap.size:=(by omega))
 (try dsimp only)
 refine hK.out _ _ ?_ (fun hQ4=>?_)
 ·(first|exact trivial|((try dsimp only);simp [go_sem, *]))
 clear hK K hQ3
 try simp only [pS]
 refine rd 14 (fun K hK=>?_)
 go_simp
 (refine rtt (H2.out _) fun w7 hsz7 hc7 hf7 HG7=>?_;(try simp at hsz7);have hy7_0:w1.heap.size<w7.heap.size:=(by omega);have hz7_0:w.heap.size<w7.heap.size:=(by omega);have hz7_1:w.heap.size+1<w7.heap.size:=(by omega);have hz7_2:w.heap.size+1+1<w7.heap.size:=(by omega))
 (try dsimp only)
 refine hK.out _ _ ?_ (fun hQ5=>?_)
 ·(first|exact trivial|((try dsimp only);simp [go_sem, *]))
 clear hK K hQ4
 try simp only [pS]
 refine wpAnyH_ready (rs:= [15]) (by kernel_rfl) (by simp) ?_
 refine AllReadyH.cons (o:=⟨none,_,_,_,_,_⟩) rfl (fun K hK=>?_) AllReadyH.nil
 rw [if_pos (by rfl)]
 refine wp_store_mid 59 _ _ rfl (w.heap.size+1+1) 0 (List.toArray [vA r,vB r,vC r,vD r,vE r]) rfl rfl (VB.there (cs:= [zU,zS,.bool false,zU,zS]) ?_) info_Frac (by first|rfl|simp [Value.oneCell']) ?_
 ·exact vbc HG7 (vbc HG6 (vbc HG5 (vbc HG4 (vbc HG3 (vbc HG1 vbb)))))
 simp only [pS]
 refine hK.out _ _ ?_ (fun hQ6=>?_)
 ·have hh:=hQ5;(try dsimp only at hh ⊢);simp only [cell_sets_ne (show w.heap.size≠w.heap.size+1+1 by omega),cell_sets_ne (show w.heap.size+1≠w.heap.size+1+1 by omega),cell_sets_ne (show w1.heap.size≠w.heap.size+1+1 by omega)];exact hh
 clear hK K hQ5
 refine wpAnyH_done (by kernel_rfl) ?_ _
 go_wp2
 refine ret_row (g:=w.heap.size+1+1) Tryz.results9 rfl (VB.set (cs:= [zU,zS,.bool false,zU,zS]) ?_ [vA r,vB r,vC r,vD r,vE r] rfl) Tryz.underlying59 rfl info_Frac rfl ⟨rfl,?_⟩
 ·exact vbc HG7 (vbc HG6 (vbc HG5 (vbc HG4 (vbc HG3 (vbc HG1 vbb)))))
 ·exact Gr.sets (by omega) _ _ (by exact gcc HG7 (gcc HG6 (gcc HG5 (gcc HG4 (gcc HG3 (gcc HG1 gzz))))))
theorem it_Seg (p:List T) (a0 a1 b0 b1:Rat) (v:Value) (w:World) (hS:PL w 0 v p) (hok:∀t∈p,t.ok) (ht:tot p≤100000) (ha:hw a0≤1000∧hw a1≤1000∧hw b0≤1000∧hw b1≤1000) (hsh:ShiftOk (linL (b0 - a0) 0 a0) (linL (b1 - a1) 0 a1) (gat p)) (hf:(gat p).length≤5):
  Calls Tryz.prog 38 #[v,f2V a0 a1,f2V b0 b1] w (Ret w (fracV (sumV (shiftL p (b0 - a0) 0 a0 (b1 - a1) 0 a1)))):=by
 have h0:hw (0:Rat)≤10:=by decide+kernel
 have d0:=hw_sub b0 a0
 have d1:=hw_sub b1 a1
 have hacc:=shift_acc hsh (gat p).length (Nat.le_refl _)
 rw [List.take_length]at hacc
 refine Seg_raw a0 a1 b0 b1 _ _ _ _ v w (fun W=>it_less b0 b1 a0 a1 W (by omega)) (fun W hW=>?_) (fun W u hu=>it_sum _ u W hu hacc.1 (Nat.le_trans hacc.2 (by omega)))
 have h:=po_Shift p (b0 - a0) 0 a0 (b1 - a1) 0 a1 v W (hS.gr hW) hok ht (by omega) hsh
 have e:fracV (0:Rat)= .agg #[zU,zS,.bool false,zU,zS]:=congrArg (fun l:List Value=>Value.agg l.toArray) zero_cells
 rw [e]at h
 exact h
end Go.Proofs.YtfgmdhjmgdccdaaGreat
