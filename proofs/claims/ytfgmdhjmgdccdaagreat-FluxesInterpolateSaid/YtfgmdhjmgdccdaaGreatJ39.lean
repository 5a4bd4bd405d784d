/-
  Part 39 of the proof: FluF FluG FluH.
-/
import Derived.Test.YtfgmdhjmgdccdaaGreatJ37
import Derived.Test.YtfgmdhjmgdccdaaGreatJ28
import Derived.Test.YtfgmdhjmgdccdaaGreatJ33
import Derived.Test.YtfgmdhjmgdccdaaGreatJ34
import Derived.Test.YtfgmdhjmgdccdaaGreatJ38
import Derived.Test.YtfgmdhjmgdccdaaGreatJ15
import Derived.Test.YtfgmdhjmgdccdaaGreatJ32
set_option linter.unusedSimpArgs false
set_option linter.unusedVariables false
set_option maxHeartbeats 8000000
namespace Go.Proofs.YtfgmdhjmgdccdaaGreat
open Go.RowKit Gus Go.Maps
theorem info_bFr:(Tryz.prog.info? 59).map (fun i=>(i.zero,i.size,i.bytes))=some (some (.agg #[zU,zS,.bool false,zU,zS]),5,56):=by kernel_rfl
theorem run_idx3p (x:Nat→Part) {n:Nat} (hn:n<3) (w:World):(Instr.index 99 (.agg #[.int .i64 ((x 0).1:Int),.int .i64 ((x 0).2),.int .i64 ((x 1).1:Int),.int .i64 ((x 1).2),.int .i64 ((x 2).1:Int),.int .i64 ((x 2).2)]) (.int .i64 (n:Int))).run Tryz.prog w= .ok (.agg #[.int .i64 ((x n).1:Int),.int .i64 (x n).2]) w:=by
 have hu:Tryz.prog.underlying 99=some (.array 3 98):=by kernel_rfl
 have hu2:Tryz.prog.underlying 98=some (.struct ((Tryz.prog.underlying 98).bind (fun| .struct fs=>some fs|_=>none)).get!):=by kernel_rfl
 have hs1:Tryz.t98.size=2:=by kernel_rfl
 rcases(show n=0∨n=1∨n=2 by omega)with rfl|rfl|rfl
 all_goals
  show _=_
  simp [Instr.index,run_underlying hu,run_underlying hu2,Go.part,Go.isAgg,hs1,asIntOf]
theorem RC.f3p {w:World} {g:Nat} {l:List (Nat→Part)} (h:RC p3C 6 w g l) {j:Nat} (hj:j<l.length) {x:Nat→Part} (hx:l[j]=x):w.cell? ⟨g,j*6,none⟩=some (.int .i64 ((x 0).1:Int))∧w.cell? ⟨g,j*6+1,none⟩=some (.int .i64 ((x 0).2))∧w.cell? ⟨g,j*6+2,none⟩=some (.int .i64 ((x 1).1:Int))∧w.cell? ⟨g,j*6+3,none⟩=some (.int .i64 ((x 1).2))∧w.cell? ⟨g,j*6+4,none⟩=some (.int .i64 ((x 2).1:Int))∧w.cell? ⟨g,j*6+5,none⟩=some (.int .i64 ((x 2).2)):=by
 subst hx
 exact⟨h j hj 0 _ rfl,h j hj 1 _ rfl,h j hj 2 _ rfl,h j hj 3 _ rfl,h j hj 4 _ rfl,h j hj 5 _ rfl⟩
set_option maxRecDepth 20000 in
theorem net_raw (ls:List (Nat→Part)) (V:List Rat) (sr ou sm:(Nat→Part)→Nat→Rat) (gv cv:Nat) (vp vt vs:Value) (w:World) (hV:SR qC 5 59 w 0 (.slice (some ⟨gv,0,none⟩) V.length cv) V) (hls:ls.length≤1000) (hx:∀x∈ls,∀k,k<3→(x k).1<V.length) (hs0:∀x,sm x 0=0) (hC:∀W,Gr w.heap.size w W→Calls Tryz.prog 32 #[.agg #[vp,vt,vs,.slice (some ⟨gv,0,none⟩) V.length cv]] W (Ret W (.int .i64 0))) (hP:∀W,Gr w.heap.size w W→Calls Tryz.prog 34 #[.agg #[vp,vt,vs]] W (fun e w'=> ∃v,e= .returned v∧SR p3C 6 99 w' W.heap.size v ls∧Gr W.heap.size W w')) (hI:∀x∈ls,∀k,k<3→∀W,Calls Tryz.prog 28 #[.int .i64 (x k).2] W (Ret W (fracV (sr x k)))) (hM:∀x∈ls,∀k q,k<3→V[(x k).1]? =some q→∀W,Calls Tryz.prog 37 #[fracV (sr x k),fracV q] W (Ret W (fracV (ou x k)))) (hA:∀x∈ls,∀k,k<3→∀W,Calls Tryz.prog 39 #[fracV (sm x k),fracV (ou x k)] W (Ret W (fracV (sm x (k+1))))):
  Calls Tryz.prog 11 #[.agg #[vp,vt,vs,.slice (some ⟨gv,0,none⟩) V.length cv]] w (fun e w'=> ∃v,e= .returned (.tuple #[v,.int .i64 0])∧SR qC 5 59 w' w.heap.size v (ls.map fun x=>sm x 3)∧Gr w.heap.size w w'):=by
 have HC:=Lh hC
 have HP:=Lh hP
 have HI:=Lh hI
 have HM:=Lh hM
 have HA:=Lh hA
 clear hC hP hI hM hA
 have HV:=Lh hV
 have HX:=Lh hx
 have HS0:=Lh hs0
 have hgv:=(SR.own_lt hV (g:=gv) rfl).2
 clear hV hx hs0
 obtain ⟨iP,hiP,hz0,hz1,hz2⟩:=info_parts info_bFr
 have HIP:=Lh (And.intro hiP (And.intro hz0 (And.intro hz1 hz2)))
 clear hiP hz0 hz1 hz2
 go_enter Tryz.func11,Tryz.ntmps11
 go_wp2_with fail
 (refine rtt (HC.out _ (by exact gzz)) fun w1 hsz1 hc1 hf1 HG1=>?_;(try simp at hsz1);have hz1_0:w.heap.size<w1.heap.size:=(by omega))
 go_wp2_with fail
 refine(HP.out _ (by exact gcc HG1 gzz)).mono ?_
 rintro e w2 ⟨vl,rfl,hl2,hg2⟩
 have hsz2:=hg2.size
 (try simp at hsz2)
 have HF2:=Lh ((show VB w1 w.heap.size [vp,vt,vs,.slice (some ⟨gv,0,none⟩) V.length cv]from by exact vbc HG1 vbb).gr hg2 (by omega))
 have HG2:=Lh (show Gr w.heap.size w w2 from(show Gr w.heap.size w w1 from by exact gcc HG1 gzz).trans (hg2.mono (by omega)))
 have HL2:=Lh hl2
 obtain ⟨al,cl,rfl⟩:=hl2.at
 have h02:w.heap.size<w2.heap.size:=by omega
 clear hl2 hg2 hsz2 hc1 hf1 HG1 HC HP
 go_wp2_with fail
 go_loopw [5,20] (fun v s wr=> ∃i:Nat,i≤ls.length∧s= .int .i64 i∧Hid (SL qC 5 59 wr w2.heap.size v ((ls.take i).map fun x=>sm x 3))∧Hid (Gr w2.heap.size w2 wr)) (fun _ s _=>ls.length - (intOf s).toNat)
 case atStart=>exact⟨0,Nat.zero_le _,rfl,Lh SL.nil,Lh (Gr.refl _ _)⟩
 case round=>
  rename_i va sa
  obtain ⟨i,hi,rfl,HS,HG⟩:=hrel
  have hszr:=HG.out.size
  obtain ⟨ac,hac⟩:∃q,(ls.take i).map (fun x=>sm x 3)=q:=⟨_,rfl⟩
  rw [hac]at HS
  have hacl:ac.length=i:=by rw [←hac];simp;omega
  have hac1:ac.length≤1000:=by omega
  replace hac:=Lh hac
  replace hacl:=Lh hacl
  obtain ⟨aa,ca,rfl⟩:=HS.out.at
  have hcap:=HS.out.sr.cap
  by_cases hlt:i<ls.length
  ·have q0:(i:Int)<(ls.length:Int):=by omega
   obtain ⟨x,hx⟩:∃x,ls[i]=x:=⟨_,rfl⟩
   have hxm:x∈ls:=hx ▸ List.getElem_mem hlt
   obtain ⟨gp,cap',e4,hgB,_,_,hsh,hRp⟩:=HL2.out.block (by intro e9;rw [e9]at hlt;simp at hlt)
   injection e4 with e4 _ e5
   subst e4 e5
   have hgl:=hsh.lt
   obtain ⟨u0,u1,u2,u3,u4,u5⟩:=(hRp.gr HG.out hgl).f3p hlt hx
   clear hsh
   have hgr:gp<wr.heap.size:=by omega
   have HNX:=Lh (show(ls.take (i+1)).map (fun x=>sm x 3)=ac++ [sm x 3]from by rw [List.take_add_one,List.getElem?_eq_getElem hlt,hx,List.map_append,hac.out];rfl)
   have H1:=Lh (HI.out x hxm)
   have H2:=Lh (HM.out x hxm)
   have H3:=Lh (HA.out x hxm)
   have HXX:=Lh (HX.out x hxm)
   clear hx hxm hRp
   go_wp2_with fail
   have HT8:=Lh (show VB ((wr.alloc (.cells #[.int .i64 ((x 0).1:Int),.int .i64 ((x 0).2),.int .i64 ((x 1).1:Int),.int .i64 ((x 1).2),.int .i64 ((x 2).1:Int),.int .i64 ((x 2).2)] 99)).alloc (.cells #[zU,zS,.bool false,zU,zS] 59)) (wr.heap.size+1) [zU,zS,.bool false,zU,zS]from by exact vbb)
   have hz8:((wr.alloc (.cells #[.int .i64 ((x 0).1:Int),.int .i64 ((x 0).2),.int .i64 ((x 1).1:Int),.int .i64 ((x 1).2),.int .i64 ((x 2).1:Int),.int .i64 ((x 2).2)] 99)).alloc (.cells #[zU,zS,.bool false,zU,zS] 59)).heap.size=wr.heap.size+1+1:=by simp
   have HG8:=Lh (show Gr wr.heap.size wr ((wr.alloc (.cells #[.int .i64 ((x 0).1:Int),.int .i64 ((x 0).2),.int .i64 ((x 1).1:Int),.int .i64 ((x 1).2),.int .i64 ((x 2).1:Int),.int .i64 ((x 2).2)] 99)).alloc (.cells #[zU,zS,.bool false,zU,zS] 59))from by exact gzz)
   have hz0:=zero_cells
   generalize ((wr.alloc (.cells #[.int .i64 ((x 0).1:Int),.int .i64 ((x 0).2),.int .i64 ((x 1).1:Int),.int .i64 ((x 1).2),.int .i64 ((x 2).1:Int),.int .i64 ((x 2).2)] 99)).alloc (.cells #[zU,zS,.bool false,zU,zS] 59))=w8 at *
   obtain ⟨wo,hwo⟩:∃q,q=wr:=⟨_,rfl⟩
   subst hwo
   obtain ⟨sb,hsb⟩:∃q,wo.heap.size+1=q:=⟨_,rfl⟩
   rw [hsb]at HT8 ⊢
   have hs1:wo.heap.size<sb:=by omega
   have hs2:sb<w8.heap.size:=by omega
   have hs3:gp<wo.heap.size:=hgr
   clear hsb hz8 u0 u1 u2 u3 u4 u5
   go_loopw [26] (fun s wr=> ∃k:Nat,k≤3∧s= .int .i64 k∧Hid (VB wr sb [.int .u64 (lowN (sz (sm x k).num)),.string (bigS (sz (sm x k).num)),.bool (ng (sm x k).num),.int .u64 (lowN (fm (sm x k))),.string (bigS (fm (sm x k)))])∧Hid (Gr wo.heap.size wo wr)) (fun s _=>3 - (intOf s).toNat)
   case atStart=>exact⟨0,by omega,rfl,Lh (by rw [HS0.out,hz0];exact HT8.out),HG8⟩
   case round=>
    clear HT8 HG8 hz0 hs2
    obtain ⟨k,hk,rfl,HT,HQ⟩:=hrel
    have hszq:=HQ.out.size
    have hbl:=HT.out.lt
    by_cases hk3:k<3
    ·have q1:(k:Int)<3:=by omega
     have hIX:=run_idx3p x hk3
     obtain ⟨e,he⟩:∃q,(x k).1=q:=⟨_,rfl⟩
     obtain ⟨s,hs⟩:∃q,(x k).2=q:=⟨_,rfl⟩
     have hel:e<V.length:=he ▸ HXX.out k hk3
     obtain ⟨q,hq⟩:∃q,V[e]=q:=⟨_,rfl⟩
     have hqi:(e:Int)<(V.length:Int):=by omega
     have G1:=Lh (hs ▸ H1.out k hk3)
     have G2:=Lh (H2.out k q hk3 (by rw [he,List.getElem?_eq_getElem hel,hq]))
     have G3:=Lh (H3.out k hk3)
     rw [he,hs]at hIX
     clear he hs
     obtain ⟨oo,hoo⟩:∃r,ou x k=r:=⟨_,rfl⟩
     obtain ⟨s9,hs9⟩:∃r,sr x k=r:=⟨_,rfl⟩
     obtain ⟨m0,hm0⟩:∃r,sm x k=r:=⟨_,rfl⟩
     obtain ⟨m1,hm1⟩:∃r,sm x (k+1)=r:=⟨_,rfl⟩
     rw [hoo]at G2 G3
     rw [hs9]at G1 G2
     rw [hm0]at G3 HT
     rw [hm1]at G3
     have HM1:=Lh hm1
     clear hoo hs9 hm0 hm1
     obtain ⟨g',cap',e4,_,_,_,hsh,hRV⟩:=HV.out.block (by intro e9;rw [e9]at hel;simp at hel)
     cases e4
     have hgl:=hsh.lt
     have HRV:=Lh hRV
     clear hsh hRV
     go_upto_region 12 with fail
     have HPB:=Lh (show VB (wr.alloc (.cells #[.int .i64 (e:Int),.int .i64 s] 98)) wr.heap.size [.int .i64 (e:Int),.int .i64 s]from by exact vbb)
     have HT1:=Lh (show VB (wr.alloc (.cells #[.int .i64 (e:Int),.int .i64 s] 98)) sb [vA m0,vB m0,vC m0,vD m0,vE m0]from HT.out.alloc _)
     have HQ1:=Lh (show Gr wo.heap.size wo (wr.alloc (.cells #[.int .i64 (e:Int),.int .i64 s] 98))from by exact gcc HQ gzz)
     have hz11:wr.heap.size<(wr.alloc (.cells #[.int .i64 (e:Int),.int .i64 s] 98)).heap.size:=by simp
     generalize (wr.alloc (.cells #[.int .i64 (e:Int),.int .i64 s] 98))=w11 at *
     generalize htb:wr.heap.size=tb at *
     clear htb hIX HT HQ
     have HGF:=Lh (HG2.out.trans ((HG.out.trans (HQ1.out.mono (by omega))).mono (by omega)))
     have HF11:=Lh ((HF2.out.gr HG.out h02).gr HQ1.out (by omega))
     obtain ⟨a3,a4,a5,a6,a7⟩:=(HRV.out.gr HGF.out hgl).fQ hel hq
     have z0:=HF11.out.c 3 _ rfl
     have z1:=HPB.out.c 0 _ rfl
     have z2:=HPB.out.c 1 _ rfl
     obtain ⟨p0,p1,p2,p3,p4,-⟩:=HT1.out.five
     have hgv11:gv<w11.heap.size:=by have:=HGF.out.size;omega
     have h011:w.heap.size<w11.heap.size:=by have:=HGF.out.size;omega
     have hsb11:sb<w11.heap.size:=by omega
     have hne:sb≠gv:=by omega
     clear hq
     refine wp_region_L 12 (S:=(fun w'=>w'.cell? ⟨w.heap.size,3,none⟩=some (.slice (some ⟨gv,0,none⟩) V.length cv)∧w'.cell? ⟨tb,0,none⟩=some (.int .i64 (e:Int))∧w'.cell? ⟨tb,1,none⟩=some (.int .i64 s)∧w'.cell? ⟨gv,e*5,none⟩=some (vA q)∧w'.cell? ⟨gv,e*5+1,none⟩=some (vB q)∧w'.cell? ⟨gv,e*5+2,none⟩=some (vC q)∧w'.cell? ⟨gv,e*5+3,none⟩=some (vD q)∧w'.cell? ⟨gv,e*5+4,none⟩=some (vE q)∧w'.cell? ⟨sb,0,none⟩=some (vA m0)∧w'.cell? ⟨sb,1,none⟩=some (vB m0)∧w'.cell? ⟨sb,2,none⟩=some (vC m0)∧w'.cell? ⟨sb,3,none⟩=some (vD m0)∧w'.cell? ⟨sb,4,none⟩=some (vE m0))) (by kernel_rfl) ?_ (fun hHeld=>?_)
     ·simp [go_sem, *]
     refine tkL 0 (some 29) (fracV m0) ?_
     try simp only [pS]
     refine tkL 1 (some 30) (.pointer (some ⟨tb,1,none⟩)) ?_
     try simp only [pS]
     refine tkL 2 (some 31) (.int .i64 s) ?_
     try simp only [pS]
     refine tkL 4 (some 33) (.pointer (some ⟨w.heap.size,3,none⟩)) ?_
     try simp only [pS]
     refine tkL 5 (some 34) (.slice (some ⟨gv,0,none⟩) V.length cv) ?_
     try simp only [pS]
     refine tkL 6 (some 35) (.pointer (some ⟨tb,0,none⟩)) ?_
     try simp only [pS]
     refine tkL 7 (some 36) (.int .i64 (e:Int)) ?_
     try simp only [pS]
     refine tkL 8 (some 37) (.pointer (some ⟨gv,e*5,none⟩)) ?_
     try simp only [pS]
     refine tkL 9 (some 38) (fracV q) ?_
     try simp only [pS]
     refine rdL 3 (fun K hK=>?_)
     go_simp
     (refine rtt (G1.out _) fun w21 hsz21 hc21 hf21 HG21=>?_;(try simp at hsz21);have hy21_0:tb<w21.heap.size:=(by omega);have hy21_1:sb<w21.heap.size:=(by omega);have hy21_2:gv<w21.heap.size:=(by omega);have hy21_3:w.heap.size<w21.heap.size:=(by omega))
     refine kO hK fun hQ1=>?_
     clear hK K hHeld
     refine rdL 10 (fun K hK=>?_)
     go_simp
     (refine rtt (G2.out _) fun w22 hsz22 hc22 hf22 HG22=>?_;(try simp at hsz22);have hy22_0:tb<w22.heap.size:=(by omega);have hy22_1:sb<w22.heap.size:=(by omega);have hy22_2:gv<w22.heap.size:=(by omega);have hy22_3:w.heap.size<w22.heap.size:=(by omega))
     refine kO hK fun hQ2=>?_
     clear hK K hQ1
     refine rdL 11 (fun K hK=>?_)
     go_simp
     (refine rtt (G3.out _) fun w23 hsz23 hc23 hf23 HG23=>?_;(try simp at hsz23);have hy23_0:tb<w23.heap.size:=(by omega);have hy23_1:sb<w23.heap.size:=(by omega);have hy23_2:gv<w23.heap.size:=(by omega);have hy23_3:w.heap.size<w23.heap.size:=(by omega))
     (try dsimp only)
     refine hK.out _ _ ?_ (fun hQ3=>?_)
     ·(first|exact trivial|((try dsimp only);simp [go_sem, *]))
     clear hK K hQ2
     try simp only [pS]
     have HT3:=Lh (show VB w23 sb [vA m0,vB m0,vC m0,vD m0,vE m0]from by exact vbc HG23 (vbc HG22 (vbc HG21 HT1.out)))
     obtain ⟨r0,r1,r2,r3,r4,-⟩:=HT3.out.five
     have e0:=HT3.out.f 0 (by simp)
     have e1:=HT3.out.f 1 (by simp)
     have e2:=HT3.out.f 2 (by simp)
     have e3:=HT3.out.f 3 (by simp)
     have e4:=HT3.out.f 4 (by simp)
     have HG9:=Lh (show Gr wo.heap.size wo w23 from by exact gcc HG23 (gcc HG22 (gcc HG21 (gcc HQ1 gzz))))
     clear hc21 hf21 hc22 hf22 hc23 hf23 p0 p1 p2 p3 p4 a3 a4 a5 a6 a7 z0 z1 z2 hQ3
     refine rdE 12 (fun K hK=>?_)
     go_simp
     (try dsimp only)
     refine hK.out _ _ ?_
     clear hK K
     try simp only [pS]
     refine AnyL.done (by kernel_rfl) ?_ _
     clear r0 r1 r2 r3 r4 e0 e1 e2 e3 e4
     have hs23:=HG23.out.size
     have hs22:=HG22.out.size
     have hs21:=HG21.out.size
     have hk1:IntKind.i64.wrap ((k:Int)+1)=(k:Int)+1:=wrap64_id (by omega) (by omega)
     go_wp2
     go_roundw
     case rel=>exact⟨k+1,by omega,by go_num,Lh (by rw [HM1.out];exact HT3.out.put5),Lh (by exact gcc HG9 gzz)⟩
     case measure=>simp [intOf];omega
    ·have hk33:k=3:=by omega
     subst hk33
     obtain ⟨m3,hm3⟩:∃r,sm x 3=r:=⟨_,rfl⟩
     rw [hm3]at HT HNX
     clear hm3
     have HS3:=Lh (HS.out.gr (HQ.out))
     obtain ⟨p0,p1,p2,p3,p4,-⟩:=HT.out.five
     have hcap2:ac.length≤ca:=hcap.2.1
     have hi1:IntKind.i64.wrap ((i:Int)+1)=(i:Int)+1:=wrap64_id (by omega) (by omega)
     go_wp2_with (at_builtin;refine wpList_appS _ rfl _ _ 37 rfl w2.heap.size iP _ 56 Tryz.underlying37 HIP.out.1 HIP.out.2.1 HIP.out.2.2.1 HIP.out.2.2.2 rfl (by decide) qC_len qC_one _ ac rfl (HS3.out.gr (by exact gzz)) wr.heap.size 1 [m3] 1 rfl rfl (by first|exact RC.new1' (by simp) rfl|exact RC.drew (RC.new1' (by simp) rfl)) (by unfold maxLen;simp;omega) (by simp;omega) (by simp;omega) ?_;intro v4 w4 hS4 hkp4 _;have HS4:=Lh hS4;have HG4:=Lh (show Gr w2.heap.size w2 w4 from(HG.out.trans (HQ.out.mono (by omega))).trans ((show Gr w2.heap.size wr _ from by exact gzz).trans (hkp4.gr (fun b e=>HS3.out.own_ge e) (by simp;omega))));clear hS4 hkp4)
     go_roundw
     case rel=>exact⟨i+1,by omega,by go_num,Lh (by rw [HNX.out];exact HS4.out),HG4⟩
     case measure=>simp [intOf];omega
  ·have hin:i=ls.length:=by omega
   subst hin
   have hac3:=hac.out
   rw [List.take_length]at hac3
   subst hac3
   have HS9:=SR.clip HS.out.sr
   rw [List.length_map]at HS9 hcap
   replace HS9:=Lh HS9
   have HC9:=Lh (fun W=>clipV_Q aa ls.length ca W hcap.2.1 (by have:=hcap.2.2;unfold maxLen at this;omega))
   clear HS hcap
   go_wp2_with fail
   (refine rtt (HC9.out _) fun w9 hsz9 hc9 hf9 HG9=>?_;(try simp at hsz9))
   go_wp2
   have HG3:=Lh (HG2.out.trans (HG.out.mono (by omega)))
   exact bodyPost_ret (v:= .tuple #[.slice aa ls.length ls.length,.int .i64 0]) (by simp [results,Tryz.results11,go_sem]) rfl ⟨_,rfl,(HS9.out.gr (by exact gcc HG9 gzz)).mono (by omega),by exact gcc HG9 (gcc HG3 gzz)⟩
end Go.Proofs.YtfgmdhjmgdccdaaGreat
namespace Go.Proofs.YtfgmdhjmgdccdaaGreat
open Go.RowKit Gus Go.Maps
set_option maxRecDepth 20000 in
theorem On_raw (n ct j:Nat) (at_:Option Addr) (ls:List (Nat→Part)) (x:Nat→Part) (gx gy:List T) (vp vs vv:Value) (w:World) (hj:j<n) (hxj:ls[j]? =some x) (hC:∀W,Gr w.heap.size w W→Calls Tryz.prog 32 #[.agg #[vp,.slice at_ n ct,vs,vv]] W (Ret W (.int .i64 0))) (hP:∀W,Gr w.heap.size w W→Calls Tryz.prog 34 #[.agg #[vp,.slice at_ n ct,vs]] W (fun e w'=> ∃v,e= .returned v∧SR p3C 6 99 w' W.heap.size v ls∧Gr W.heap.size W w')) (hF:∀W,Gr w.heap.size w W→Calls Tryz.prog 33 #[.agg #[vp,.slice at_ n ct,vs,vv],.agg #[.int .i64 ((x 0).1:Int),.int .i64 ((x 0).2),.int .i64 ((x 1).1:Int),.int .i64 ((x 1).2),.int .i64 ((x 2).1:Int),.int .i64 ((x 2).2)],.int .i64 (j:Int)] W (fun e w'=> ∃u v:Value,e= .returned (.agg #[u,v])∧PL w' W.heap.size u gx∧PL w' W.heap.size v gy∧Gr W.heap.size W w')):
  Calls Tryz.prog 8 #[.agg #[vp,.slice at_ n ct,vs,vv],.int .i64 (j:Int)] w (fun e w'=> ∃u v:Value,e= .returned (.tuple #[.agg #[u,v],.int .i64 0])∧PL w' w.heap.size u gx∧PL w' w.heap.size v gy∧Gr w.heap.size w w'):=by
 have HC:=Lh hC
 have HP:=Lh hP
 have HF:=Lh hF
 have Hxj:=Lh hxj
 clear hC hP hF hxj
 go_enter Tryz.func8,Tryz.ntmps8
 go_wp2_with fail
 (refine rtu (HC.out _ (by exact gzz)) fun w1 hsz1 hl1 hc1 hf1 HG1=>?_;(try simp at hsz1))
 have HF1:=Lh (show VB w1 w.heap.size [vp,.slice at_ n ct,vs,vv]from by exact vbc HG1 vbb)
 have HR1:=Lh (show VB w1 (w.heap.size+1) [.slice none 0 0,.slice none 0 0]from by exact vbc HG1 vbb)
 have hGz:=HR1.out.lt
 have q0:(j:Int)<(n:Int):=by omega
 have q1:¬(j:Int)<0:=by omega
 have q2:¬(n:Int)≤(j:Int):=by omega
 have c1:=HF1.out.c 1 _ rfl
 go_upto_region 6 with fail
 clear c1
 have HGA:=Lh (show Gr w.heap.size w w1 from by exact gcc HG1 gzz)
 clear HG1 hc1 hf1
 obtain ⟨a0,a1,a2,a3,-⟩:_∧_∧_∧_∧True:=⟨HF1.out.c 0 _ rfl,HF1.out.c 1 _ rfl,HF1.out.c 2 _ rfl,HF1.out.c 3 _ rfl,trivial⟩
 have h01:w.heap.size<w1.heap.size:=by omega
 refine wp_region_held_drew (S:=(fun w'=>w'.cell? ⟨w.heap.size,0,none⟩=some (vp)∧w'.cell? ⟨w.heap.size,1,none⟩=some (.slice at_ n ct)∧w'.cell? ⟨w.heap.size,2,none⟩=some (vs)∧w'.cell? ⟨w.heap.size,3,none⟩=some (vv))) (by kernel_rfl) ?_ (fun hHeld=>?_)
 ·simp [go_sem, *]
 refine tq 0 27 (.agg #[vp,.slice at_ n ct,vs,vv]) ?_
 refine tq 1 28 (.pointer (some ⟨w.heap.size,0,none⟩)) ?_
 refine tq 2 29 (.agg #[vp,.slice at_ n ct,vs]) ?_
 refine tq 4 31 (.int .i64 (j:Int)) ?_
 refine tq 7 34 (.int .i64 (j:Int)) ?_
 refine rd 3 (fun K hK=>?_)
 go_simp
 (refine rtv (HP.out _ (by exact gcc HGA gzz)) fun w2 v2 HS2 hsz2 hl2 hc2 hf2 HG2=>?_;(try simp at hsz2))
 refine kO hK fun hQ1=>?_
 clear hK K hHeld
 obtain ⟨hjl,hxx⟩:=List.getElem?_eq_some_iff.1 Hxj.out
 obtain ⟨gp,cp,e4,hgB,_,_,hsh,hRp⟩:=HS2.out.block (by intro e9;rw [e9]at hjl;simp at hjl)
 subst e4
 have hgl:=hsh.lt
 have q3:(j:Int)<(ls.length:Int):=by omega
 refine tq 5 32 (.pointer (some ⟨gp,j*6,none⟩)) ?_
 obtain ⟨u0,u1,u2,u3,u4,u5⟩:=hRp.f3p hjl hxx
 clear hRp hsh hxx HS2 hgB
 refine rd 6 (fun K hK=>?_)
 go_simp
 refine kO hK fun hQ2=>?_
 clear hK K hQ1
 clear u0 u1 u2 u3 u4 u5
 refine rd 8 (fun K hK=>?_)
 go_simp
 refine(HF.out _ (by exact gcc HG2 (gcc HGA gzz))).mono ?_
 rintro e w3 ⟨u,v,rfl,hu,hv,hg3⟩
 (try (with_reducible replace hg3:=Gr.of_drew hg3))
 have hsz3:=hg3.size
 (try simp at hsz3)
 have h03:w.heap.size<w3.heap.size:=by omega
 have h13:w.heap.size+1<w3.heap.size:=by omega
 obtain ⟨hc3,hf3⟩:=hg3.cells
 have HG3:=Lh hg3
 have HU:=Lh (show PL w3 (w.heap.size+1+1) u gx from hu.mono (by first|omega|(simp;done)|(simp;omega)))
 have HW:=Lh (show PL w3 (w.heap.size+1+1) v gy from hv.mono (by first|omega|(simp;done)|(simp;omega)))
 clear hg3 hu hv
 refine kO hK fun hQ3=>?_
 clear hK K hQ2
 obtain ⟨au,cu,rfl⟩:=HU.out.at
 obtain ⟨av,cv,rfl⟩:=HW.out.at
 have r0:=HR1.out.c 0 _ rfl
 have r1:=HR1.out.c 1 _ rfl
 have s0:=HR1.out.f 0 (by simp)
 have s1:=HR1.out.f 1 (by simp)
 refine rd 9 (fun K hK=>?_)
 go_simp
 refine kO hK fun hQ4=>?_
 clear hK K hQ3
 refine tq 10 5 (.int .i64 0) ?_
 refine wpAnyH_done (by kernel_rfl) ?_ _
 clear r0 r1 s0 s1 a0 a1 a2 a3 hQ4
 have HR3:=Lh (show VB w3 (w.heap.size+1) [.slice none 0 0,.slice none 0 0]from by exact vbc HG3 (vbc HG2 HR1.out))
 go_wp2
 have hfs:=fun (u:Value) (l:List T) (h:PL w3 (w.heap.size+1+1) u l)=>(SL.fars (show w.heap.size+1<w.heap.size+1+1 by omega) [.slice au gx.length cu,.slice av gy.length cv] 0 h).mono (show w.heap.size≤w.heap.size+1+1 by omega)
 refine ret_row2 (w:=w3.setCells (w.heap.size+1) 0 [.slice au gx.length cu,.slice av gy.length cv]) (g:=w.heap.size+1) Tryz.results8 rfl rfl (VB.set (cs:= [.slice none 0 0,.slice none 0 0]) HR3.out [.slice au gx.length cu,.slice av gy.length cv] rfl) Tryz.underlying47 rfl info_PP rfl ⟨_,_,rfl,hfs _ _ HU.out,hfs _ _ HW.out,?_⟩
 exact Gr.sets (show w.heap.size≤w.heap.size+1 by omega) [.slice au gx.length cu,.slice av gy.length cv] 0 (by exact gcc HG3 (gcc HG2 (gcc HGA gzz)))
end Go.Proofs.YtfgmdhjmgdccdaaGreat
namespace Go.Proofs.YtfgmdhjmgdccdaaGreat
open Go.RowKit Gus Go.Maps
abbrev i64ok (n:Int):Prop:= -9223372036854775808≤n∧n≤9223372036854775807
abbrev q2C (p:Int×Nat):List Value:= [.int .i64 p.1,.int .u32 (p.2:Int)]
def RS {α:Type} (enc:α→List Value) (k:Nat) (w:World) (v:Value) (l:List α):Prop:=
 (∃a cap,v= .slice a 0 cap∧l= [])∨∃g o cap,v= .slice (some ⟨g,o,none⟩) l.length cap∧g<w.heap.size∧∀j (hj:j<l.length) (i:Nat) u,(enc l[j])[i]? =some u→w.cell? ⟨g,o+j*k+i,none⟩=some u
section
variable {α:Type} {enc:α→List Value} {k:Nat} {w w':World} {v:Value} {l:List α}
theorem RS.gr (h:RS enc k w v l) (hg:Gr w.heap.size w w'):RS enc k w' v l:=by
 rcases h with h|⟨g,o,cap,h1,h2,h3⟩
 ·exact .inl h
 ·exact .inr ⟨g,o,cap,h1,Nat.lt_of_lt_of_le h2 hg.size,fun j hj i u hu=>(hg.cell (p:=⟨g,o+j*k+i,none⟩) h2).trans (h3 j hj i u hu)⟩
theorem RS.at (h:RS enc k w v l):∃a cap,v= .slice a l.length cap:=by
 rcases h with⟨a,cap,h,rfl⟩|⟨g,o,cap,h,_⟩
 ·exact⟨_,_,h⟩
 ·exact⟨_,_,h⟩
theorem RS.block (h:RS enc k w v l) (hl:l≠ []):∃g o cap,v= .slice (some ⟨g,o,none⟩) l.length cap∧g<w.heap.size∧∀j (hj:j<l.length) (i:Nat) u,(enc l[j])[i]? =some u→w.cell? ⟨g,o+j*k+i,none⟩=some u:=by
 rcases h with⟨a,cap,_,h⟩|h
 ·exact absurd h hl
 ·exact h
end
theorem hw_qQ (n:Int) (d:Nat) (h:i64ok n) (hd:d<4294967296):hw (qQ n d)≤4:=by
 unfold qQ
 have h0:(((if d=0 then 1 else d:Nat):Int):Rat).num≠0:=by
  show((if d=0 then 1 else d:Nat):Int)≠0
  split<;>omega
 rw [Rat.div_def]
 have a:=hw_mul (n:Rat) (((if d=0 then 1 else d:Nat):Int):Rat)⁻¹
 have b:=hw_inv _ h0
 have c:=hw_int n h.1 h.2
 have e:=hw_int ((if d=0 then 1 else d:Nat):Int) (by split<;>omega) (by split<;>omega)
 omega
theorem info_Flx:(Tryz.prog.info? 39).map (·.size)=some 4:=by kernel_rfl
def fv (qs:List (Int×Nat)) (i:Nat):Rat:=if qs= []then 0 else qQ (qs.getD (i % qs.length) (0,0)).1 (qs.getD (i % qs.length) (0,0)).2
end Go.Proofs.YtfgmdhjmgdccdaaGreat
