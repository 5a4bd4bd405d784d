/-
  Part 39 of the proof: DofB.
-/
import Derived.Test.YtjijceliboaeaaaGreatDoorJ38
set_option linter.unusedSimpArgs false
set_option linter.unusedVariables false
namespace Go.Proofs.YtjijceliboaeaaaGreatDoor
open Go.RowKit Gus Go.Maps
def midE (pts:List Pt) (e:Edg):Pt:=midP (pts.getD e.a.toNat ⟨0,0⟩) (pts.getD e.b.toNat ⟨0,0⟩)
abbrev abE (e:Edg):Int×Int:=(e.a,e.b)
theorem midE_get {pts:List Pt} {p q:Nat} {el er:Int} {a b:Pt} (hp:p<pts.length) (hq:q<pts.length) (ha:pts[p]=a) (hb:pts[q]=b):midE pts ⟨(p:Int),(q:Int),el,er⟩=midP a b:=by
 unfold midE
 simp [List.getD_eq_getElem?_getD,List.getElem?_eq_getElem hp,List.getElem?_eq_getElem hq,ha,hb]
set_option maxRecDepth 20000 in
set_option maxHeartbeats 8000000 in
theorem df_Of2 (m:Msh) (es:List Edg) (va vb vc:Value) (w:World) (hM:MS w 0 va vb vc m) (hN:m.pts.length≤1000) (hT:m.tris.length≤1000) (hl:∀t∈m.tris,t.1<m.pts.length∧t.2.1<m.pts.length∧t.2.2<m.pts.length∧hasE es t.2.1 t.2.2∧hasE es t.2.2 t.1∧hasE es t.1 t.2.1) (he:es.length≤3000) (hes:Ends m.pts.length es) (hpt:∀p∈m.pts,hp p≤1000000000) (hnd:es.Pairwise fun a b=> ¬(a.a=b.a∧a.b=b.b))
  (hChk:∀W:World,Gr w.heap.size w W→Calls Tryz.prog 15 #[.agg #[va,vb,vc]] W (Ret W (.int .i64 0)))
  (hEd:∀W:World,Gr w.heap.size w W→Calls Tryz.prog 7 #[.agg #[va,vb,vc]] W (fun e w'=> ∃v',e= .returned v'∧SR eC 4 84 w' W.heap.size v' es∧Gr W.heap.size W w')):
  Calls Tryz.prog 5 #[.agg #[va,vb,vc],.int .i64 2] w (fun e w'=> ∃x y z,e= .returned (.tuple #[.agg #[.int .i64 2,.int .i64 ((m.pts.length+es.length:Nat):Int),x,y,z],.int .i64 0])∧RWr w' w.heap.size x (m.tris.map (rowT 2 m.pts.length es))∧SR pC 10 55 w' w.heap.size y (m.pts++es.map (midE m.pts))∧SR i2C 2 85 w' w.heap.size z (es.map abE)∧Gr w.heap.size w w'):=by
 have HC:=Lib.hid hChk
 have HE:=Lib.hid hEd
 clear hChk hEd
 have HM:=Lib.hid hM
 obtain ⟨hMp,hMt,hMs⟩:=hM
 obtain ⟨ap,cp,rfl⟩:=hMp.at
 obtain ⟨at_,ct,rfl⟩:=hMt.at
 obtain ⟨as_,cs,rfl⟩:=hMs.at
 clear hMp hMt hMs
 have HL:=Lib.hid hl
 have HES:=Lib.hid hes
 have HPT:=Lib.hid hpt
 have HND:=Lib.hid hnd
 clear hl hes hpt hnd
 go_enter Tryz.func5,Tryz.ntmps5
 go_wp2_with fail
 (refine(HC.out _ (by(with_reducible (repeat' (first|exact Gr.refl _ _|refine Gr.drew ?_|refine Gr.setCell ?_ ?_ _|refine Gr.alloc ?_ ?_ _|omega|(simp;done)|(simp;omega)))))).mono ?_;rintro e w1 ⟨rfl,hg1⟩;(try (with_reducible replace hg1:=Gr.of_drew hg1));have hsz1:=hg1.size;(try simp at hsz1);have hz1_0:w.heap.size<w1.heap.size:=(by omega);have hz1_1:w.heap.size+1<w1.heap.size:=(by omega);obtain ⟨hc1,hf1⟩:=hg1.cells;have HG1:=Lib.hid hg1;clear hg1)
 have HX:=Lib.hid (show VB w1 (w.heap.size) [.slice ap m.pts.length cp,.slice at_ m.tris.length ct,.slice as_ m.sides.length cs]from by(with_reducible (repeat' (first|(refine VB.new' ?_;exact(by first|omega|(simp;done)|(simp;omega)))|apply VB.put2|apply VB.put3|apply VB.put5|refine VB.drew ?_|refine VB.far ?_ ?_ _|refine VB.alloc ?_ _|refine VB.gr ?_ HG1.out ?_|omega|(simp;done)|(simp;omega)))))
 have HR:=Lib.hid (show VB w1 (w.heap.size+1) [.int .i64 0,.int .i64 0,.slice none 0 0,.slice none 0 0,.slice none 0 0]from by(with_reducible (repeat' (first|(refine VB.new' ?_;exact(by first|omega|(simp;done)|(simp;omega)))|apply VB.put2|apply VB.put3|apply VB.put5|refine VB.drew ?_|refine VB.far ?_ ?_ _|refine VB.alloc ?_ _|refine VB.gr ?_ HG1.out ?_|omega|(simp;done)|(simp;omega)))))
 have c0:=HX.out.c 0 _ rfl
 have hr1:=HR.out.lt
 go_upto_region 6 with fail
 go_cut [7] (fun s wx=> ∃pb v,s= .pointer (some ⟨pb,0,none⟩)∧VB wx pb [.int .i64 2,.int .i64 (m.pts.length:Int),.slice none 0 0,v,.slice none 0 0]∧w1.heap.size≤pb∧SL pC 10 55 wx w1.heap.size v m.pts∧v.ownBlock≠some pb∧Gr w1.heap.size w1 wx)
 case first=>
  refine wp_region_held_drew (S:=(fun w'=>w'.cell? ⟨w.heap.size,0,none⟩=some (.slice ap m.pts.length cp))) (by kernel_rfl) ?_ (fun hHeld=>?_)
  ·simp [go_sem, *]
  refine tk 0 (some 28) (.int .i64 2) ?_
  try simp only [pS]
  refine tk 1 (some 29) (.pointer (some ⟨w.heap.size,0,none⟩)) ?_
  try simp only [pS]
  refine tk 2 (some 30) (.slice ap m.pts.length cp) ?_
  try simp only [pS]
  refine tk 3 (some 31) (.int .i64 (m.pts.length:Int)) ?_
  try simp only [pS]
  refine tk 4 (some 32) (.pointer (some ⟨w.heap.size,0,none⟩)) ?_
  try simp only [pS]
  refine tk 5 (some 33) (.slice ap m.pts.length cp) ?_
  try simp only [pS]
  refine wpAnyH_ready (rs:= [6,8]) (by kernel_rfl) (by simp) ?_
  refine AllReadyH.cons rfl (fun K hK=>?_) (AllReadyH.cons rfl (fun K hK=>?_) AllReadyH.nil)
  ·go_simp
   (refine(clone_Pt m.pts _ 0 _ (HM.out.1.gr (w':=_) (by(with_reducible (repeat' (first|exact Gr.refl _ _|refine Gr.drew ?_|refine Gr.setCell ?_ ?_ _|refine Gr.alloc ?_ ?_ _|refine Gr.trans ?_ (Gr.mono HG1.out ?_)|omega|(simp;done)|(simp;omega)))))) (by omega)).mono ?_;rintro e w2 ⟨v2,rfl,hS2,hg2⟩;(try (with_reducible replace hg2:=Gr.of_drew hg2));have hsz2:=hg2.size;(try simp at hsz2);have hz2_0:w.heap.size<w2.heap.size:=(by omega);have hz2_1:w.heap.size+1<w2.heap.size:=(by omega);obtain ⟨hc2,hf2⟩:=hg2.cells;have HG2:=Lib.hid hg2;clear hg2;have HS2:=Lib.hid hS2;clear hS2)
   (try dsimp only)
   refine hK.out _ _ ?_ (fun hQ1=>?_)
   ·(first|exact trivial|((try dsimp only);simp [go_sem, *]))
   clear hK K hHeld
   try simp only [pS]
   obtain ⟨a2,c2,rfl⟩:=HS2.out.at
   refine tk 7 (some 35) (.agg #[.int .i64 2,.int .i64 (m.pts.length:Int),.slice none 0 0,.slice a2 m.pts.length c2,.slice none 0 0]) ?_
   try simp only [pS]
   refine rd 8 (fun K hK=>?_)
   go_simp
   (try dsimp only)
   refine hK.out _ _ ?_ (fun hQ2=>?_)
   ·(first|exact trivial|((try dsimp only);simp [go_sem, *]))
   clear hK K hQ1
   try simp only [pS]
   refine rd 9 (fun K hK=>?_)
   go_simp
   (try dsimp only)
   refine hK.out _ _ ?_ (fun hQ3=>?_)
   ·(first|exact trivial|((try dsimp only);simp [go_sem, *]))
   clear hK K hQ2
   try simp only [pS]
   refine wpAnyH_done (by kernel_rfl) ?_ _
   go_wp2_with fail
   go_meet
   refine⟨w2.heap.size,_,rfl,by(with_reducible (repeat' (first|(refine VB.new' ?_;exact(by first|omega|(simp;done)|(simp;omega)))|apply VB.put2|apply VB.put3|apply VB.put5|refine VB.drew ?_|refine VB.far ?_ ?_ _|refine VB.alloc ?_ _|omega|(simp;done)|(simp;omega)))),by omega,?_,?_,?_⟩
   ·exact(HS2.out.gr (by(with_reducible (repeat' (first|exact Gr.refl _ _|refine Gr.drew ?_|refine Gr.setCell ?_ ?_ _|refine Gr.alloc ?_ ?_ _|omega|(simp;done)|(simp;omega)))))).mono (by first|omega|(simp;done)|(simp;omega))
   ·intro e;have:=(own_sl HS2.out _ e).2;omega
   ·(with_reducible (repeat' (first|exact Gr.refl _ _|refine Gr.drew ?_|refine Gr.setCell ?_ ?_ _|refine Gr.alloc ?_ ?_ _|refine Gr.trans ?_ (Gr.mono HG2.out ?_)|omega|(simp;done)|(simp;omega))))
  ·go_simp
   (try dsimp only)
   refine hK.out _ _ ?_ (fun hQ1=>?_)
   ·(first|exact trivial|((try dsimp only);simp [go_sem, *]))
   clear hK K hHeld
   try simp only [pS]
   refine rd 6 (fun K hK=>?_)
   go_simp
   (refine(clone_Pt m.pts _ 0 _ (HM.out.1.gr (w':=_) (by(with_reducible (repeat' (first|exact Gr.refl _ _|refine Gr.drew ?_|refine Gr.setCell ?_ ?_ _|refine Gr.alloc ?_ ?_ _|refine Gr.trans ?_ (Gr.mono HG1.out ?_)|omega|(simp;done)|(simp;omega)))))) (by omega)).mono ?_;rintro e w2 ⟨v2,rfl,hS2,hg2⟩;(try (with_reducible replace hg2:=Gr.of_drew hg2));have hsz2:=hg2.size;(try simp at hsz2);have hz2_0:w.heap.size<w2.heap.size:=(by omega);have hz2_1:w.heap.size+1<w2.heap.size:=(by omega);obtain ⟨hc2,hf2⟩:=hg2.cells;have HG2:=Lib.hid hg2;clear hg2;have HS2:=Lib.hid hS2;clear hS2)
   (try dsimp only)
   refine hK.out _ _ ?_ (fun hQ2=>?_)
   ·(first|exact trivial|((try dsimp only);simp [go_sem, *]))
   clear hK K hQ1
   try simp only [pS]
   obtain ⟨a2,c2,rfl⟩:=HS2.out.at
   refine tk 7 (some 35) (.agg #[.int .i64 2,.int .i64 (m.pts.length:Int),.slice none 0 0,.slice a2 m.pts.length c2,.slice none 0 0]) ?_
   try simp only [pS]
   refine rd 9 (fun K hK=>?_)
   go_simp
   (try dsimp only)
   refine hK.out _ _ ?_ (fun hQ3=>?_)
   ·(first|exact trivial|((try dsimp only);simp [go_sem, *]))
   clear hK K hQ2
   try simp only [pS]
   refine wpAnyH_done (by kernel_rfl) ?_ _
   go_wp2_with fail
   go_meet
   refine⟨w1.heap.size,_,rfl,by(with_reducible (repeat' (first|(refine VB.new' ?_;exact(by first|omega|(simp;done)|(simp;omega)))|apply VB.put2|apply VB.put3|apply VB.put5|refine VB.drew ?_|refine VB.far ?_ ?_ _|refine VB.alloc ?_ _|refine VB.gr ?_ HG2.out ?_|omega|(simp;done)|(simp;omega)))),by omega,?_,?_,?_⟩
   ·refine SL.mono (B:=w1.heap.size+1) ?_ (by omega)
    iterate 5 (refine SL.far ?_ (by first|omega|(simp;done)|(simp;omega)) _)
    exact HS2.out.mono (by first|omega|(simp;done)|(simp;omega))
   ·intro e;have:=(own_sl HS2.out _ e).1;(try simp at this);omega
   ·(with_reducible (repeat' (first|exact Gr.refl _ _|refine Gr.drew ?_|refine Gr.setCell ?_ ?_ _|refine Gr.alloc ?_ ?_ _|refine Gr.trans ?_ (Gr.mono HG2.out ?_)|omega|(simp;done)|(simp;omega))))
 case rest=>
  clear c0
  obtain ⟨wb,hwb⟩:∃q,q=wc:=⟨_,rfl⟩
  subst hwb
  obtain ⟨pb,va,rfl,hTB,hpb,hAt,hne,hgb⟩:=hcut
  have hszb:=hgb.size
  have HGB:=Lib.hid (show Gr w.heap.size w wb from(show Gr w.heap.size w w1 from by(with_reducible (repeat' (first|exact Gr.refl _ _|refine Gr.drew ?_|refine Gr.setCell ?_ ?_ _|refine Gr.alloc ?_ ?_ _|refine Gr.trans ?_ (Gr.mono HG1.out ?_)|omega|(simp;done)|(simp;omega))))).trans (hgb.mono (by first|omega|(simp;done)|(simp;omega))))
  have HX2:=Lib.hid (HX.out.gr hgb HX.out.lt)
  have HR2:=Lib.hid (HR.out.gr hgb HR.out.lt)
  have HTB:=Lib.hid hTB
  have HAT:=Lib.hid hAt
  have HNE:=Lib.hid hne
  have hpl:=hTB.lt
  clear hTB hAt hne hgb HX HR
  obtain ⟨aa,ca,rfl⟩:=HAT.out.at
  have hq0:w.heap.size<wb.heap.size:=HX2.out.lt
  have hmm:= @run_makeMap Tryz.prog
  have c0:=HX2.out.c 0 _ rfl
  have c1:=HX2.out.c 1 _ rfl
  have c2:=HX2.out.c 2 _ rfl
  go_wp2_with fail
  refine(HE.out _ (by(with_reducible (repeat' (first|exact Gr.refl _ _|refine Gr.drew ?_|refine Gr.setCell ?_ ?_ _|refine Gr.alloc ?_ ?_ _|refine Gr.trans ?_ (Gr.mono HGB.out ?_)|omega|(simp;done)|(simp;omega)))))).mono ?_
  rintro e w3 ⟨ve,rfl,hEd,hg3⟩
  have hsz3:=hg3.size
  (try simp at hsz3)
  have HX3:=Lib.hid (show VB w3 (w.heap.size) [.slice ap m.pts.length cp,.slice at_ m.tris.length ct,.slice as_ m.sides.length cs]from(show VB (wb.alloc (.map #[] 0)) (w.heap.size) [.slice ap m.pts.length cp,.slice at_ m.tris.length ct,.slice as_ m.sides.length cs]from HX2.out.alloc _).gr hg3 (by simp;omega))
  have HR3:=Lib.hid (show VB w3 (w.heap.size+1) [.int .i64 0,.int .i64 0,.slice none 0 0,.slice none 0 0,.slice none 0 0]from(show VB (wb.alloc (.map #[] 0)) (w.heap.size+1) [.int .i64 0,.int .i64 0,.slice none 0 0,.slice none 0 0,.slice none 0 0]from HR2.out.alloc _).gr hg3 (by simp;omega))
  have HT3:=Lib.hid (show VB w3 pb _ from(show VB (wb.alloc (.map #[] 0)) pb _ from HTB.out.alloc _).gr hg3 (by simp;omega))
  have HA3:=Lib.hid (show SL pC 10 55 w3 w1.heap.size _ m.pts from(HAT.out.gr (by(with_reducible (repeat' (first|exact Gr.refl _ _|refine Gr.drew ?_|refine Gr.setCell ?_ ?_ _|refine Gr.alloc ?_ ?_ _|omega|(simp;done)|(simp;omega)))))).gr hg3)
  have HI3:=Lib.hid (show MIP w3 wb.heap.size m.pts.length []from(MI.new wb _ _).gr hg3 (by simp))
  have HD3:=Lib.hid (show SR eC 4 84 w3 (wb.heap.size+1) ve es from hEd.mono (by simp))
  have HG3:=Lib.hid (show Gr w.heap.size w w3 from(show Gr w.heap.size w (wb.alloc (.map #[] 0))from by(with_reducible (repeat' (first|exact Gr.refl _ _|refine Gr.drew ?_|refine Gr.setCell ?_ ?_ _|refine Gr.alloc ?_ ?_ _|refine Gr.trans ?_ (Gr.mono HGB.out ?_)|omega|(simp;done)|(simp;omega))))).trans (hg3.mono (by first|omega|(simp;done)|(simp;omega))))
  have HO3:=Lib.hid (fun g (e:(Value.slice aa m.pts.length ca).ownBlock=some g)=>(own_sl HAT.out g e).2)
  clear HX2 HR2 HTB HAT HGB hg3 hEd hmm c0 c1 c2
  obtain ⟨ae,ce,rfl⟩:=HD3.out.at
  have hq1:pb<wb.heap.size:=hpl
  generalize hmb:wb.heap.size=mb at *
  clear hmb
  have hq2:w.heap.size+1<pb:=by omega
  have hq3:w.heap.size+1<w1.heap.size:=hr1
  rename_i K0 hK0 K1 hK1 K2 hK2
  have hK9:∀a w',Met (fun a w'=>Code.wp Tryz.prog (tlO 17) (bodyPost Tryz.prog (Tryz.f5) (fun e w'=> ∃x y z,e= .returned (.tuple #[.agg #[.int .i64 2,.int .i64 ((m.pts.length+es.length:Nat):Int),x,y,z],.int .i64 0])∧RWr w' w.heap.size x (m.tris.map (rowT 2 m.pts.length es))∧SR pC 10 55 w' w.heap.size y (m.pts++es.map (midE m.pts))∧SR i2C 2 85 w' w.heap.size z (es.map abE)∧Gr w.heap.size w w')) a w') a w'→K0 a w':=fun a w' h=>hK0 a w' h
  clear hK0
  go_wp2_with fail
  have hw3:mb+1≤w3.heap.size:=by omega
  have hmw:w.heap.size<mb:=by omega
  clear hq0
  obtain ⟨b3,hb3⟩:∃q,w3.heap.size=q:=⟨_,rfl⟩
  have HDO:=Lib.hid (fun g (e:(Value.slice ae es.length ce).ownBlock=some g)=>show g<b3 from hb3 ▸ (HD3.out.own_lt e).2)
  have hb4:b3≤w3.heap.size:=by omega
  have hb5:mb+1≤b3:=by omega
  clear hb3
  go_loopw [40] (fun s wr=> ∃(i:Nat) (va vn:Value),i≤es.length∧s= .int .i64 i∧Hid (VB wr pb [.int .i64 2,.int .i64 ((m.pts.length+i:Nat):Int),.slice none 0 0,va,vn])∧Hid (SL pC 10 55 wr w1.heap.size va (m.pts++(es.take i).map (midE m.pts)))∧Hid (SL i2C 2 85 wr b3 vn ((es.take i).map abE))∧Hid (MIP wr mb m.pts.length (es.take i))∧Hid (SR eC 4 84 wr (mb+1) (.slice ae es.length ce) es)∧Hid (VB wr w.heap.size [.slice ap m.pts.length cp,.slice at_ m.tris.length ct,.slice as_ m.sides.length cs])∧Hid (VB wr (w.heap.size+1) [.int .i64 0,.int .i64 0,.slice none 0 0,.slice none 0 0,.slice none 0 0])∧Hid (∀g,va.ownBlock=some g→(g<mb∧g≠pb)∨b3≤g)∧Hid (∀g,va.ownBlock=some g→vn.ownBlock≠some g)∧Hid (Gr w.heap.size w wr)∧b3≤wr.heap.size) (fun s _=>es.length - (intOf s).toNat)
  case atStart=>exact⟨0,_,_,Nat.zero_le _,rfl,HT3,by simpa using HA3,Lib.hid SL.nil,by simpa using HI3,HD3,HX3,HR3,Lib.hid (fun g e=> .inl ⟨HO3.out g e,fun e2=>HNE.out (e2 ▸ e)⟩),Lib.hid (fun g e=>by simp [Value.ownBlock]),HG3,by omega⟩
  case round=>
   clear HT3 HA3 HI3 HD3 HX3 HR3 HO3 HNE HG3
   obtain ⟨i,va,vn,hi,rfl,HT,HA,HN,HI,HD,HX,HR,HO,HV,HG,hb⟩:=hrel
   obtain ⟨al,hal⟩:∃q,m.pts++(es.take i).map (midE m.pts)=q:=⟨_,rfl⟩
   rw [hal]at HA
   have hall:al.length≤4000:=by rw [←hal];(try simp);omega
   replace hal:=Lib.hid hal
   obtain ⟨nl,hnl⟩:∃q,(es.take i).map abE=q:=⟨_,rfl⟩
   rw [hnl]at HN
   have hnll:nl.length=i:=by rw [←hnl];simp;omega
   have hnle:nl.length≤3000:=by omega
   have hnlx:=Lib.hid hnll
   clear hnll
   replace hnl:=Lib.hid hnl
   obtain ⟨aA,cA,rfl⟩:=HA.out.at
   obtain ⟨aN,cN,rfl⟩:=HN.out.at
   have htl:=HT.out.lt
   have hxl:=HX.out.lt
   have hrl:=HR.out.lt
   have hil:=HI.out.lt
   by_cases hlt:i<es.length
   ·have q0:(i:Int)<(es.length:Int):=by omega
    obtain ⟨ed,hed⟩:∃x,es[i]=x:=⟨_,rfl⟩
    obtain ⟨p,q,hp,hq,hpN,hqN⟩:=HES.out ed (hed ▸ List.getElem_mem hlt)
    obtain ⟨ea,eb,el,er⟩:=ed
    dsimp only at hp hq
    subst hp hq
    have hmiss:=numP_miss (n:=m.pts.length) (l:=es.take i) (a:=(p:Int)) (b:=(q:Int)) (fun e he hab=>by
     obtain ⟨j,hj,rfl⟩:=List.getElem_of_mem he
     simp at hj
     have h7:=List.pairwise_iff_getElem.1 HND.out j i (by omega) hlt (by omega)
     rw [hed]at h7
     exact h7 (by simpa [List.getElem_take] using hab))
    have HMISS:=Lib.hid hmiss
    clear hmiss
    obtain ⟨g,cap',e4,hgB,_,_,hsh,hR⟩:=HD.out.block (by intro e;rw [e]at hlt;simp at hlt)
    injection e4 with e4 _ e5
    subst e4 e5
    have hglt:=hsh.lt
    obtain ⟨u0,u1,u2,u3⟩:=hR.fE hlt hed
    clear hR hsh
    dsimp only at u0 u1 u2 u3
    have hnext1:Hid ((es.take (i+1)).map abE=nl++ [((p:Int),(q:Int))]):=Lib.hid (by rw [List.take_add_one,List.getElem?_eq_getElem hlt,hed,List.map_append,hnl.out];rfl)
    have hnext2:Hid (numP m.pts.length (es.take (i+1))=numP m.pts.length (es.take i)++ [(endK p q,.int .i64 ((m.pts.length:Int)+(i:Int)))]):=Lib.hid (by rw [List.take_add_one,List.getElem?_eq_getElem hlt,hed];simp only [Option.toList_some];rw [numP_snoc,List.length_take,Nat.min_eq_left (by omega),Int.natCast_add])
    obtain ⟨P,hP⟩:∃x,m.pts[p]=x:=⟨_,rfl⟩
    obtain ⟨Q,hQ⟩:∃x,m.pts[q]=x:=⟨_,rfl⟩
    obtain ⟨mp,hmp⟩:∃x,midP P Q=x:=⟨_,rfl⟩
    have hnext3:Hid (m.pts++(es.take (i+1)).map (midE m.pts)=al++ [mp]):=Lib.hid (by rw [List.take_add_one,List.getElem?_eq_getElem hlt,hed,List.map_append,←List.append_assoc,hal.out];simp only [Option.toList_some,List.map_cons,List.map_nil,midE_get hpN hqN hP hQ,hmp])
    have HMID:=Lib.hid (show ∀W,Calls Tryz.prog 17 #[pV P,pV Q] W (Ret W (pV mp))from fun W=>by rw [←hmp];exact pt_Mid P Q W (HPT.out P (hP ▸ List.getElem_mem _)) (HPT.out Q (hQ ▸ List.getElem_mem _)))
    obtain ⟨gp,cap',e4,_,_,_,hshp,hRp⟩:=HM.out.1.block (by intro e;rw [e]at hpN;simp at hpN)
    injection e4 with e4 _ e5
    subst e4 e5
    have hgp:=hshp.lt
    have HRP:=Lib.hid hRp
    replace hP:=Lib.hid hP
    replace hQ:=Lib.hid hQ
    clear hRp hshp hmp
    clear hed
    have t4:=HT.out.c 4 _ rfl
    go_upto_region 11 with fail
    obtain ⟨iP,hiP,hz0,hz1,hz2⟩:=info_parts info_bPair
    have HIP:=Lib.hid (And.intro hiP (And.intro hz0 (And.intro hz1 hz2)))
    clear hiP hz0 hz1 hz2 u2 u3
    have hpb3:pb<b3:=by omega
    go_upto_region 12 with(at_builtin;refine wpList_appS _ rfl _ _ 34 rfl b3 iP _ 16 Tryz.underlying34 HIP.out.1 HIP.out.2.1 HIP.out.2.2.1 HIP.out.2.2.2 rfl (by decide) i2C_len i2C_one _ nl rfl (HN.out.gr (by(with_reducible (repeat' (first|exact Gr.refl _ _|refine Gr.drew ?_|refine Gr.setCell ?_ ?_ _|refine Gr.alloc ?_ ?_ _|omega|(simp;done)|(simp;omega)))))) (wr.heap.size+1) 1 [((p:Int),(q:Int))] 1 rfl rfl (by first|exact RC.new1' (by simp) rfl|exact RC.drew (RC.new1' (by simp) rfl)) (by unfold maxLen;simp;omega) (by simp;omega) (by simp;omega) ?_;intro v4 w4 hS4 hkp4 hown4;(obtain ⟨nl2,hnl2⟩:∃q',nl++ [((p:Int),(q:Int))]=q':=⟨_,rfl⟩);rw [hnl2]at hS4;obtain ⟨a4,c4,e4'⟩:=hS4.at;subst e4';replace hnl2:=Lib.hid hnl2;have hsz4:=hkp4.g.size;(try simp at hsz4);have HOW4:=Lib.hid (show(Value.slice a4 nl2.length c4).ownBlock=(Value.slice aN nl.length cN).ownBlock∨(Value.slice a4 nl2.length c4).ownBlock=some (wr.heap.size+1+1)from hown4.imp id (fun e=>e.trans (by simp)));have HGA:=Lib.hid (show Kp wr w4 (Value.slice aN nl.length cN).ownBlock from((show Gr wr.heap.size wr _ from by(with_reducible (repeat' (first|exact Gr.refl _ _|refine Gr.drew ?_|refine Gr.setCell ?_ ?_ _|refine Gr.alloc ?_ ?_ _|omega|(simp;done)|(simp;omega))))).kp _).trans hkp4);have HEB4:=Lib.hid (VB.kp (g:=wr.heap.size) (cs:= [.int .i64 (p:Int),.int .i64 (q:Int),.int .i64 el,.int .i64 er]) (by(with_reducible (repeat' (first|(refine VB.new' ?_;exact(by first|omega|(simp;done)|(simp;omega)))|apply VB.put2|apply VB.put3|apply VB.put5|refine VB.drew ?_|refine VB.far ?_ ?_ _|refine VB.alloc ?_ _|omega|(simp;done)|(simp;omega))))) hkp4 (fun e=>by have:=(own_sl HN.out _ e.symm).2;omega));have HT4:=HT.out.kp HGA.out (fun e=>by have:=(own_sl HN.out _ e.symm).1;omega);have t40:=HT4.c 4 _ rfl;have t41:=HT4.f 4 (by simp);replace HT4:=Lib.hid HT4;have HS4:=Lib.hid hS4;clear hS4 hkp4 hown4 t4)
    have hns2:nl2.length=nl.length+1:=by rw [←hnl2.out];simp
    have hni:nl.length=i:=hnlx.out
    have k5:Kp w4 (w4.setCell ⟨pb,4,none⟩ (.slice a4 nl2.length c4)) (some pb):=Kp.sets w4 pb 4 [.slice a4 nl2.length c4]
    have HT5:=Lib.hid (show VB (w4.setCell ⟨pb,4,none⟩ (.slice a4 nl2.length c4)) pb _ from HT4.out.one 4 (.slice a4 nl2.length c4) (by simp))
    have HN5:=Lib.hid (k5.sl HS4.out (fun g e e2=>by have:=(own_sl HS4.out g e).1;have:=Option.some.inj e2;omega))
    have HA5:=Lib.hid (k5.sl (HGA.out.sl HA.out (fun g e e2=>HV.out g e e2.symm)) (fun g e e2=>by have:=HO.out g e;have:=Option.some.inj e2;omega))
    have HI5:=Lib.hid ((HI.out.kp HGA.out (fun e=>by have:=(own_sl HN.out _ e.symm).1;omega)).kp k5 (fun e=>by have:=Option.some.inj e;omega))
    have HD5:=Lib.hid (SR.kp (SR.kp HD.out HGA.out (fun g' e e2=>by have:=HDO.out g' e;have:=(own_sl HN.out g' e2.symm).1;omega)) k5 (fun g' e e2=>by have:=(HD.out.own_lt e).1;have:=Option.some.inj e2;omega))
    have HX5:=Lib.hid ((HX.out.kp HGA.out (fun e=>by have:=(own_sl HN.out _ e.symm).1;omega)).kp k5 (fun e=>by have:=Option.some.inj e;omega))
    have HR5:=Lib.hid ((HR.out.kp HGA.out (fun e=>by have:=(own_sl HN.out _ e.symm).1;omega)).kp k5 (fun e=>by have:=Option.some.inj e;omega))
    have HEB5:=Lib.hid (HEB4.out.kp k5 (fun e=>by have:=Option.some.inj e;omega))
    have HG5:=Lib.hid ((HG.out.trans (HGA.out.gr (fun b e=>by have:=(own_sl HN.out b e).1;omega) (by omega))).trans (k5.gr (fun b e=>by have:=Option.some.inj e;omega) (by omega)))
    clear k5 t40 t41
    have hz5:(w4.setCell ⟨pb,4,none⟩ (.slice a4 nl2.length c4)).heap.size=w4.heap.size:=by simp
    generalize w4.setCell ⟨pb,4,none⟩ (.slice a4 nl2.length c4)=w5 at *
    obtain ⟨ga,ca2,e4,_,_,_,hsh,hR⟩:=HN5.out.block (by intro e;rw [e]at hns2;simp at hns2)
    injection e4 with e4 _ e5
    subst e4 e5
    have hga:=hsh.lt
    have hx2:nl2[i]? =some ((p:Int),(q:Int)):=by rw [←hnl2.out,←hni];simp
    obtain ⟨hx3,hx4⟩:=List.getElem?_eq_some_iff.1 hx2
    obtain ⟨v0,v1⟩:=hR.fI2 hx3 hx4
    clear hR hsh hx2 hx4
    dsimp only at v0 v1
    have t4:=HT5.out.c 4 _ rfl
    have x0:=HX5.out.c 0 _ rfl
    have hkey:keyOf Tryz.prog kP (endK p q)=some (klT p q):=keyOf_P (by omega) (by omega)
    obtain ⟨w6,hrun,hmi6,hkp6,hsz6⟩:=MI.upd_new (w:=w5.drew) (val:= .int .i64 ((m.pts.length:Int)+(i:Int))) HI5.out.drew keyed_P under_P hkey HMISS.out (by rw [numP_len];simp [maxLen];omega)
    have q6:IntKind.i64.wrap ((m.pts.length:Int)+(i:Int))=(m.pts.length:Int)+(i:Int):=wrap64_id (by omega) (by omega)
    have lp5:=HT5.out.lt
    have lx5:=HX5.out.lt
    have y0:w6.cell? ⟨pb,4,none⟩=_:=(hkp6.cell (b:=pb) (o:=4) lp5 (fun e=>by have:=Option.some.inj e;omega)).trans t4
    have y1:w6.cell? ⟨ga,i*2,none⟩=_:=(hkp6.cell (b:=ga) (o:=i*2) hga (fun e=>by have:=Option.some.inj e;have:=(own_sl HN5.out ga rfl).1;omega)).trans v0
    have y2:w6.cell? ⟨ga,i*2+1,none⟩=_:=(hkp6.cell (b:=ga) (o:=i*2+1) hga (fun e=>by have:=Option.some.inj e;have:=(own_sl HN5.out ga rfl).1;omega)).trans v1
    have y3:w6.cell? ⟨w.heap.size,0,none⟩=_:=(hkp6.cell (b:=w.heap.size) (o:=0) lx5 (fun e=>by have:=Option.some.inj e;omega)).trans x0
    have HKP6:=Lib.hid hkp6
    have HMI6:=Lib.hid (show MIP w6 mb m.pts.length (es.take (i+1))from by show MI _ _ _ _ (numP _ _);rw [hnext2.out];exact hmi6)
    clear hkey hmi6 hkp6
    have q7:(i:Int)<(nl2.length:Int):=by omega
    have hi0:(0:Int)≤(i:Int):=by omega
    have HNS:=Lib.hid (And.intro hns2 hni)
    clear hns2 hni
    refine wp_region_held_drew (S:=(fun w'=>w'.cell? ⟨pb,4,none⟩=some (.slice (some ⟨ga,0,none⟩) nl2.length c4)∧w'.cell? ⟨ga,i*2,none⟩=some (.int .i64 (p:Int))∧w'.cell? ⟨ga,i*2+1,none⟩=some (.int .i64 (q:Int))∧w'.cell? ⟨w.heap.size,0,none⟩=some (.slice (some ⟨gp,0,none⟩) m.pts.length cp))) (by kernel_rfl) ?_ (fun hHeld=>?_)
    ·simp [go_sem, *]
    refine tk 0 (some 55) (.map (some mb)) ?_
    try simp only [pS]
    refine tk 1 (some 56) (.pointer (some ⟨pb,4,none⟩)) ?_
    try simp only [pS]
    refine tk 2 (some 57) (.slice (some ⟨ga,0,none⟩) nl2.length c4) ?_
    try simp only [pS]
    refine tk 3 (some 58) (.int .i64 (i:Int)) ?_
    try simp only [pS]
    refine tk 4 (some 59) (.pointer (some ⟨ga,i*2,none⟩)) ?_
    try simp only [pS]
    refine tk 5 (some 60) (.agg #[.int .i64 (p:Int),.int .i64 (q:Int)]) ?_
    try simp only [pS]
    refine tk 6 (some 61) (.pointer (some ⟨w.heap.size,0,none⟩)) ?_
    try simp only [pS]
    refine tk 7 (some 62) (.slice (some ⟨gp,0,none⟩) m.pts.length cp) ?_
    try simp only [pS]
    refine tk 8 (some 63) (.int .i64 (m.pts.length:Int)) ?_
    try simp only [pS]
    refine tk 9 (some 64) (.int .i64 (i:Int)) ?_
    try simp only [pS]
    refine tk 10 (some 65) (.int .i64 ((m.pts.length:Int)+(i:Int))) ?_
    try simp only [pS]
    refine rd 11 (fun K hK=>?_)
    go_simp
    (try dsimp only)
    refine hK.out _ _ ?_ (fun hQ1=>?_)
    ·(first|exact trivial|((try dsimp only);simp [go_sem, *]))
    clear hK K hHeld
    try simp only [pS]
    refine wpAnyH_done (by kernel_rfl) ?_ _
    have nemb:∀b,b≠mb→some b≠some mb:=fun b h e=>h (Option.some.inj e)
    have HT6:=Lib.hid (HT5.out.drew.kp HKP6.out (nemb _ (by omega)))
    have HX6:=Lib.hid (HX5.out.drew.kp HKP6.out (nemb _ (by omega)))
    have HR6:=Lib.hid (HR5.out.drew.kp HKP6.out (nemb _ (by omega)))
    have HEB6:=Lib.hid (HEB5.out.drew.kp HKP6.out (nemb _ (by omega)))
    have HN6:=Lib.hid (HKP6.out.sl (HN5.out.gr (show Gr w5.heap.size w5 w5.drew from by(with_reducible (repeat' (first|exact Gr.refl _ _|refine Gr.drew ?_|refine Gr.setCell ?_ ?_ _|refine Gr.alloc ?_ ?_ _|omega|(simp;done)|(simp;omega)))))) (fun g e e2=>by have:=(own_sl HN5.out g e).1;have:=Option.some.inj e2;omega))
    have HA6:=Lib.hid (HKP6.out.sl (HA5.out.gr (show Gr w5.heap.size w5 w5.drew from by(with_reducible (repeat' (first|exact Gr.refl _ _|refine Gr.drew ?_|refine Gr.setCell ?_ ?_ _|refine Gr.alloc ?_ ?_ _|omega|(simp;done)|(simp;omega)))))) (fun g e e2=>by have:=HO.out g e;have:=Option.some.inj e2;omega))
    have HD6:=Lib.hid (SR.kp (HD5.out.gr (show Gr w5.heap.size w5 w5.drew from by(with_reducible (repeat' (first|exact Gr.refl _ _|refine Gr.drew ?_|refine Gr.setCell ?_ ?_ _|refine Gr.alloc ?_ ?_ _|omega|(simp;done)|(simp;omega)))))) HKP6.out (fun g e e2=>by have:=(HD.out.own_lt e).1;have:=Option.some.inj e2;omega))
    have HG6:=Lib.hid ((HG5.out.trans (show Gr w.heap.size w5 w5.drew from by(with_reducible (repeat' (first|exact Gr.refl _ _|refine Gr.drew ?_|refine Gr.setCell ?_ ?_ _|refine Gr.alloc ?_ ?_ _|omega|(simp;done)|(simp;omega)))))).trans (HKP6.out.gr (fun b e=>by have:=Option.some.inj e;omega) (by simp;omega)))
    have hsz7:wr.heap.size+1+1≤w6.heap.size:=by rw [hsz6];simp;omega
    clear HT5 HX5 HR5 HEB5 HN5 HA5 HD5 HG5 HI5 HKP6 nemb t4 x0 v0 v1 hrun y0 y1 y2 y3 q7 lp5 lx5 hQ1 q6 hsz6 hz5 hsz4 hga hx3
    have HO':=HO
    have HV':=Lib.hid (fun g (e:(Value.slice aA al.length cA).ownBlock=some g) (e2:(Value.slice (some ⟨ga,0,none⟩) nl2.length c4).ownBlock=some g)=>by
     rcases HOW4.out with h|h
     ·exact HV.out g e (h ▸ e2)
     ·rw [h]at e2;have:=(own_sl HA.out g e).2;have:=Option.some.inj e2;omega)
    have q8:(p:Int)<(m.pts.length:Int):=by omega
    have q9:(q:Int)<(m.pts.length:Int):=by omega
    have z3:=HT6.out.c 3 _ rfl
    have z0:=HX6.out.c 0 _ rfl
    have z4:=HEB6.out.c 0 _ rfl
    have z5:=HEB6.out.c 1 _ rfl
    obtain ⟨a0,a1,a2,a3,a4,a5,a6,a7,a8,a9⟩:=(HRP.out.gr HG6.out hgp).fPt hpN hP.out
    obtain ⟨d0,d1,d2,d3,d4,d5,d6,d7,d8,d9⟩:=(HRP.out.gr HG6.out hgp).fPt hqN hQ.out
    have hlp6:pb<w6.heap.size:=by omega
    have hle6:wr.heap.size<w6.heap.size:=by omega
    have hlg6:gp<w6.heap.size:=by omega
    have hlx6:w.heap.size<w6.heap.size:=by omega
    go_upto_region 14 with fail
    refine wp_region_L 18 (S:=(fun w'=>w'.cell? ⟨pb,3,none⟩=some (.slice aA al.length cA)∧w'.cell? ⟨w.heap.size,0,none⟩=some (.slice (some ⟨gp,0,none⟩) m.pts.length cp)∧w'.cell? ⟨wr.heap.size,0,none⟩=some (.int .i64 (p:Int))∧w'.cell? ⟨wr.heap.size,1,none⟩=some (.int .i64 (q:Int))∧w'.cell? ⟨gp,p*10,none⟩=some (.int .u64 (lowN (sz P.x.num)))∧w'.cell? ⟨gp,p*10+1,none⟩=some (.string (bigS (sz P.x.num)))∧w'.cell? ⟨gp,p*10+2,none⟩=some (.bool (ng P.x.num))∧w'.cell? ⟨gp,p*10+3,none⟩=some (.int .u64 (lowN (fm P.x)))∧w'.cell? ⟨gp,p*10+4,none⟩=some (.string (bigS (fm P.x)))∧w'.cell? ⟨gp,p*10+5,none⟩=some (.int .u64 (lowN (sz P.y.num)))∧w'.cell? ⟨gp,p*10+6,none⟩=some (.string (bigS (sz P.y.num)))∧w'.cell? ⟨gp,p*10+7,none⟩=some (.bool (ng P.y.num))∧w'.cell? ⟨gp,p*10+8,none⟩=some (.int .u64 (lowN (fm P.y)))∧w'.cell? ⟨gp,p*10+9,none⟩=some (.string (bigS (fm P.y)))∧w'.cell? ⟨gp,q*10,none⟩=some (.int .u64 (lowN (sz Q.x.num)))∧w'.cell? ⟨gp,q*10+1,none⟩=some (.string (bigS (sz Q.x.num)))∧w'.cell? ⟨gp,q*10+2,none⟩=some (.bool (ng Q.x.num))∧w'.cell? ⟨gp,q*10+3,none⟩=some (.int .u64 (lowN (fm Q.x)))∧w'.cell? ⟨gp,q*10+4,none⟩=some (.string (bigS (fm Q.x)))∧w'.cell? ⟨gp,q*10+5,none⟩=some (.int .u64 (lowN (sz Q.y.num)))∧w'.cell? ⟨gp,q*10+6,none⟩=some (.string (bigS (sz Q.y.num)))∧w'.cell? ⟨gp,q*10+7,none⟩=some (.bool (ng Q.y.num))∧w'.cell? ⟨gp,q*10+8,none⟩=some (.int .u64 (lowN (fm Q.y)))∧w'.cell? ⟨gp,q*10+9,none⟩=some (.string (bigS (fm Q.y))))) (by kernel_rfl) ?_ (fun hHeld=>?_)
    ·simp [go_sem, *]
    refine tkL 0 (some 68) (.pointer (some ⟨pb,3,none⟩)) ?_
    try simp only [pS]
    refine tkL 1 (some 69) (.slice aA al.length cA) ?_
    try simp only [pS]
    refine tkL 2 (some 70) (.pointer (some ⟨w.heap.size,0,none⟩)) ?_
    try simp only [pS]
    refine tkL 3 (some 71) (.slice (some ⟨gp,0,none⟩) m.pts.length cp) ?_
    try simp only [pS]
    refine tkL 4 (some 72) (.pointer (some ⟨wr.heap.size,0,none⟩)) ?_
    try simp only [pS]
    refine tkL 5 (some 73) (.int .i64 (p:Int)) ?_
    try simp only [pS]
    refine tkL 6 (some 74) (.pointer (some ⟨gp,p*10,none⟩)) ?_
    try simp only [pS]
    refine tkL 7 (some 75) (.agg #[.int .u64 (lowN (sz P.x.num)),.string (bigS (sz P.x.num)),.bool (ng P.x.num),.int .u64 (lowN (fm P.x)),.string (bigS (fm P.x)),.int .u64 (lowN (sz P.y.num)),.string (bigS (sz P.y.num)),.bool (ng P.y.num),.int .u64 (lowN (fm P.y)),.string (bigS (fm P.y))]) ?_
    try simp only [pS]
    refine tkL 8 (some 76) (.pointer (some ⟨w.heap.size,0,none⟩)) ?_
    try simp only [pS]
    refine tkL 9 (some 77) (.slice (some ⟨gp,0,none⟩) m.pts.length cp) ?_
    try simp only [pS]
    refine tkL 10 (some 78) (.pointer (some ⟨wr.heap.size,1,none⟩)) ?_
    try simp only [pS]
    refine tkL 11 (some 79) (.int .i64 (q:Int)) ?_
    try simp only [pS]
    refine tkL 12 (some 80) (.pointer (some ⟨gp,q*10,none⟩)) ?_
    try simp only [pS]
    refine tkL 13 (some 81) (.agg #[.int .u64 (lowN (sz Q.x.num)),.string (bigS (sz Q.x.num)),.bool (ng Q.x.num),.int .u64 (lowN (fm Q.x)),.string (bigS (fm Q.x)),.int .u64 (lowN (sz Q.y.num)),.string (bigS (sz Q.y.num)),.bool (ng Q.y.num),.int .u64 (lowN (fm Q.y)),.string (bigS (fm Q.y))]) ?_
    try simp only [pS]
    refine rdL 14 (fun K hK=>?_)
    go_simp
    (refine(HMID.out _).mono ?_;rintro e w7 ⟨rfl,hg7⟩;(try (with_reducible replace hg7:=Gr.of_drew hg7));have hsz7:=hg7.size;(try simp at hsz7);have hy7_0:pb<w7.heap.size:=(by omega);have hy7_1:gp<w7.heap.size:=(by omega);have hy7_2:w.heap.size<w7.heap.size:=(by omega);have hy7_3:wr.heap.size<w7.heap.size:=(by omega);obtain ⟨hc7,hf7⟩:=hg7.cells;have HG7:=Lib.hid hg7;clear hg7)
    (try dsimp only)
    refine hK.out _ _ ?_ (fun hQ1=>?_)
    ·(first|exact trivial|((try dsimp only);simp [go_sem, *]))
    clear hK K hHeld
    try simp only [pS]
    refine rdL 15 (fun K hK=>?_)
    go_simp
    (try dsimp only)
    refine hK.out _ _ ?_ (fun hQ2=>?_)
    ·(first|exact trivial|((try dsimp only);simp [go_sem, *]))
    clear hK K hQ1
    try simp only [pS]
    refine rdL 16 (fun K hK=>?_)
    rw [if_pos (by rfl)]
    obtain ⟨i8,hi8,hz0,hz1,hz2⟩:=info_parts info_bPtM
    refine wp_appS _ _ _ 27 rfl w1.heap.size i8 _ 112 Tryz.underlying27 hi8 hz0 hz1 hz2 rfl (by decide) pC_len pC_one (.slice aA al.length cA) al rfl (HA6.out.gr (by(with_reducible (repeat' (first|exact Gr.refl _ _|refine Gr.drew ?_|refine Gr.setCell ?_ ?_ _|refine Gr.alloc ?_ ?_ _|refine Gr.trans ?_ (Gr.mono HG7.out ?_)|omega|(simp;done)|(simp;omega)))))) w7.heap.size 1 [mp] 1 rfl rfl (by first|exact RC.new1 rfl|exact RC.drew (RC.new1 rfl)) (by unfold maxLen;simp;omega) (by simp;omega) (by simp;omega) ?_
    intro v8 w8 hS8 hkp8 hown8
    have HGB:=Lib.hid (show Kp w6 w8 (Value.slice aA al.length cA).ownBlock from((show Gr w6.heap.size w6 _ from by(with_reducible (repeat' (first|exact Gr.refl _ _|refine Gr.drew ?_|refine Gr.setCell ?_ ?_ _|refine Gr.alloc ?_ ?_ _|refine Gr.trans ?_ (Gr.mono HG7.out ?_)|omega|(simp;done)|(simp;omega))))).kp _).trans hkp8)
    have hz8:w6.heap.size≤w8.heap.size:=HGB.out.g.size
    have hg7z:=HG7.out.size
    have HOW8:=Lib.hid (show v8.ownBlock=(Value.slice aA al.length cA).ownBlock∨∃k,v8.ownBlock=some k∧w6.heap.size≤k from hown8.imp id (fun e=>⟨_,e,by simp;omega⟩))
    have HT8:=Lib.hid (HT6.out.kp HGB.out (fun e=>by have:=HO.out pb e.symm;omega))
    have HX8:=Lib.hid (HX6.out.kp HGB.out (fun e=>by have:=(own_sl HA.out _ e.symm).1;omega))
    have HR8:=Lib.hid (HR6.out.kp HGB.out (fun e=>by have:=(own_sl HA.out _ e.symm).1;omega))
    have HEB8:=Lib.hid (HEB6.out.kp HGB.out (fun e=>by have:=(own_sl HA.out _ e.symm).2;omega))
    have HN8:=Lib.hid (HGB.out.sl HN6.out (fun g e e2=>HV'.out g e2.symm e))
    have HD8:=Lib.hid (SR.kp HD6.out HGB.out (fun g e e2=>by have:=HO.out g e2.symm;have:=HDO.out g e;have:=(HD.out.own_lt e).1;omega))
    have HI8:=Lib.hid (HMI6.out.kp HGB.out (fun e=>by have:=HO.out _ e.symm;omega))
    have HG8:=Lib.hid (HG6.out.trans (HGB.out.gr (fun b e=>by have:=(own_sl HA.out b e).1;omega) (by omega)))
    obtain ⟨a8',c8',e8⟩:=hS8.at
    obtain ⟨al2,hal2⟩:∃q,al++ [mp]=q:=⟨_,rfl⟩
    rw [hal2]at hS8 e8
    subst e8
    replace hal2:=Lib.hid hal2
    have HS8:=Lib.hid hS8
    clear hS8 hkp8 hown8 hi8 hz0 hz1 hz2
    refine hK.out _ _ ?_ (fun hQ9=>?_)
    ·have h1:=(HRP.out.gr HG8.out hgp).fPt hpN hP.out
     have h2:=(HRP.out.gr HG8.out hgp).fPt hqN hQ.out
     obtain ⟨a0,a1,a2,a3,a4,a5,a6,a7,a8,a9⟩:=h1
     obtain ⟨d0,d1,d2,d3,d4,d5,d6,d7,d8,d9⟩:=h2
     exact⟨HT8.out.c 3 _ rfl,HX8.out.c 0 _ rfl,HEB8.out.c 0 _ rfl,HEB8.out.c 1 _ rfl,a0,a1,a2,a3,a4,a5,a6,a7,a8,a9,d0,d1,d2,d3,d4,d5,d6,d7,d8,d9⟩
    clear hK K hQ2
    try simp only [pS]
    refine tkL 17 (some 85) (.pointer (some ⟨pb,3,none⟩)) ?_
    try simp only [pS]
    have y3:=HT8.out.c 3 _ rfl
    have y4:=HT8.out.f 3 (by simp)
    clear z3 z0 z4 z5 a0 a1 a2 a3 a4 a5 a6 a7 a8 a9 d0 d1 d2 d3 d4 d5 d6 d7 d8 d9 hc7 hf7
    have k9:Kp w8 (w8.setCell ⟨pb,3,none⟩ (.slice a8' al2.length c8')) (some pb):=Kp.sets w8 pb 3 [.slice a8' al2.length c8']
    have HT9:=Lib.hid (show VB (w8.setCell ⟨pb,3,none⟩ (.slice a8' al2.length c8')) pb _ from HT8.out.one 3 (.slice a8' al2.length c8') (by simp))
    have hz9:(w8.setCell ⟨pb,3,none⟩ (.slice a8' al2.length c8')).heap.size=w8.heap.size:=by simp
    refine rdE 18 (fun K hK=>?_)
    go_simp
    (try dsimp only)
    refine hK.out _ _ ?_
    clear hK K
    try simp only [pS]
    generalize w8.setCell ⟨pb,3,none⟩ (.slice a8' al2.length c8')=w9 at *
    clear y3 y4 HT8
    refine AnyL.done (by kernel_rfl) ?_ _
    have nepb:∀b,b≠pb→some b≠some pb:=fun b h e=>h (Option.some.inj e)
    have HX9:=Lib.hid (HX8.out.kp k9 (nepb _ (by omega)))
    have HR9:=Lib.hid (HR8.out.kp k9 (nepb _ (by omega)))
    have HI9:=Lib.hid (HI8.out.kp k9 (nepb _ (by omega)))
    have HN9:=Lib.hid (k9.sl HN8.out (fun g e=>nepb _ (by have:=(own_sl HN8.out g e).1;omega)))
    have HD9:=Lib.hid (SR.kp HD8.out k9 (fun g e=>nepb _ (by have:=(HD.out.own_lt e).1;omega)))
    have HO9:=Lib.hid (show ∀g,(Value.slice a8' al2.length c8').ownBlock=some g→(g<mb∧g≠pb)∨b3≤g from fun g e=>by
     rcases HOW8.out with h|⟨k,h,hk⟩
     ·exact HO.out g (h ▸ e)
     ·rw [h]at e;have:=Option.some.inj e;omega)
    have HS9:=Lib.hid (k9.sl HS8.out (fun g e=>nepb _ (by have:=HO9.out g e;omega)))
    have HV9:=Lib.hid (show ∀g,(Value.slice a8' al2.length c8').ownBlock=some g→(Value.slice (some ⟨ga,0,none⟩) nl2.length c4).ownBlock≠some g from fun g e e2=>by
     rcases HOW8.out with h|⟨k,h,hk⟩
     ·exact HV'.out g (h ▸ e) e2
     ·rw [h]at e;have:=Option.some.inj e;have:=(own_sl HN6.out g e2).2;omega)
    have HG9:=Lib.hid (HG8.out.trans (k9.gr (fun b e=>by have:=Option.some.inj e;omega) (by omega)))
    clear k9 nepb HX8 HR8 HI8 HN8 HD8 HS8 HG8 HEB8 HOW8 HGB
    have t1:=HT9.out.c 1 _ rfl
    have f1:=HT9.out.f 1 (by simp)
    have q10:IntKind.i64.wrap (((m.pts.length+i:Nat):Int)+1)=((m.pts.length+(i+1):Nat):Int):=by rw [wrap64_id (by omega) (by omega)];omega
    go_wp2
    go_roundw
    case rel=>
     have k10:Kp w9 (w9.setCell ⟨pb,1,none⟩ (.int .i64 ((m.pts.length+(i+1):Nat):Int))) (some pb):=Kp.sets w9 pb 1 [.int .i64 ((m.pts.length+(i+1):Nat):Int)]
     have nepb:∀b,b≠pb→some b≠some pb:=fun b h e=>h (Option.some.inj e)
     exact⟨i+1,.slice a8' al2.length c8',.slice (some ⟨ga,0,none⟩) nl2.length c4,by omega,by go_num,Lib.hid (HT9.out.one 1 _ (by simp)),Lib.hid (by rw [hnext3.out,hal2.out];exact k10.sl HS9.out (fun g e=>nepb _ (by have:=HO9.out g e;omega))),Lib.hid (by rw [hnext1.out,hnl2.out];exact k10.sl HN9.out (fun g e=>nepb _ (by have:=(own_sl HN9.out g e).1;omega))),Lib.hid (HI9.out.kp k10 (nepb _ (by omega))),Lib.hid (SR.kp HD9.out k10 (fun g e=>nepb _ (by have:=(HD.out.own_lt e).1;omega))),Lib.hid (HX9.out.kp k10 (nepb _ (by omega))),Lib.hid (HR9.out.kp k10 (nepb _ (by omega))),HO9,HV9,Lib.hid (HG9.out.trans (k10.gr (fun b e=>by have:=Option.some.inj e;omega) (by omega))),by simp;omega⟩
    case measure=>simp [intOf];omega
   ·have hil2:i=es.length:=by omega
    subst hil2
    have e9:es.take es.length=es:=List.take_length
    rw [e9]at HI
    have hnl9:nl=es.map abE:=by rw [←hnl.out,e9]
    subst hnl9
    have hal9:al=m.pts++es.map (midE m.pts):=by rw [←hal.out,e9]
    subst hal9
    clear e9
    go_wp2_with fail
    refine Met.intro ?_
    exact of17_2 w wr m es _ at_ aA aN ct cA cN _ _ pb mb _ _ HG.out HX.out HR.out HT.out (by omega) hN hT he (HA.out.mono (by omega)) (HN.out.mono (by omega)) (fun e=>by have:=HO.out pb e;omega) (fun e=>by have:=(own_sl HN.out pb e).1;omega) HI.out (by omega) HM.out.2.1 HL.out
set_option maxRecDepth 20000 in
set_option maxHeartbeats 8000000 in
theorem df_Of1 (m:Msh) (es:List Edg) (va vb vc:Value) (w:World) (hM:MS w 0 va vb vc m) (hN:m.pts.length≤1000) (hT:m.tris.length≤1000) (hl:∀t∈m.tris,t.1<m.pts.length∧t.2.1<m.pts.length∧t.2.2<m.pts.length∧hasE es t.2.1 t.2.2∧hasE es t.2.2 t.1∧hasE es t.1 t.2.1) (he:es.length≤3000) (hes:Ends m.pts.length es) (hpt:∀p∈m.pts,hp p≤1000000000) (hnd:es.Pairwise fun a b=> ¬(a.a=b.a∧a.b=b.b))
  (hChk:∀W:World,Gr w.heap.size w W→Calls Tryz.prog 15 #[.agg #[va,vb,vc]] W (Ret W (.int .i64 0)))
  (hEd:∀W:World,Gr w.heap.size w W→Calls Tryz.prog 7 #[.agg #[va,vb,vc]] W (fun e w'=> ∃v',e= .returned v'∧SR eC 4 84 w' W.heap.size v' es∧Gr W.heap.size W w')):
  Calls Tryz.prog 5 #[.agg #[va,vb,vc],.int .i64 1] w (fun e w'=> ∃x y z,e= .returned (.tuple #[.agg #[.int .i64 1,.int .i64 ((m.pts.length+0:Nat):Int),x,y,z],.int .i64 0])∧RWr w' w.heap.size x (m.tris.map (rowT 1 m.pts.length es))∧SR pC 10 55 w' w.heap.size y (m.pts)∧SR i2C 2 85 w' w.heap.size z (es.map abE)∧Gr w.heap.size w w'):=by
 have HC:=Lib.hid hChk
 have HE:=Lib.hid hEd
 clear hChk hEd
 have HM:=Lib.hid hM
 obtain ⟨hMp,hMt,hMs⟩:=hM
 obtain ⟨ap,cp,rfl⟩:=hMp.at
 obtain ⟨at_,ct,rfl⟩:=hMt.at
 obtain ⟨as_,cs,rfl⟩:=hMs.at
 clear hMp hMt hMs
 have HL:=Lib.hid hl
 have HES:=Lib.hid hes
 have HPT:=Lib.hid hpt
 have HND:=Lib.hid hnd
 clear hl hes hpt hnd
 go_enter Tryz.func5,Tryz.ntmps5
 go_wp2_with fail
 (refine(HC.out _ (by(with_reducible (repeat' (first|exact Gr.refl _ _|refine Gr.drew ?_|refine Gr.setCell ?_ ?_ _|refine Gr.alloc ?_ ?_ _|omega|(simp;done)|(simp;omega)))))).mono ?_;rintro e w1 ⟨rfl,hg1⟩;(try (with_reducible replace hg1:=Gr.of_drew hg1));have hsz1:=hg1.size;(try simp at hsz1);have hz1_0:w.heap.size<w1.heap.size:=(by omega);have hz1_1:w.heap.size+1<w1.heap.size:=(by omega);obtain ⟨hc1,hf1⟩:=hg1.cells;have HG1:=Lib.hid hg1;clear hg1)
 have HX:=Lib.hid (show VB w1 (w.heap.size) [.slice ap m.pts.length cp,.slice at_ m.tris.length ct,.slice as_ m.sides.length cs]from by(with_reducible (repeat' (first|(refine VB.new' ?_;exact(by first|omega|(simp;done)|(simp;omega)))|apply VB.put2|apply VB.put3|apply VB.put5|refine VB.drew ?_|refine VB.far ?_ ?_ _|refine VB.alloc ?_ _|refine VB.gr ?_ HG1.out ?_|omega|(simp;done)|(simp;omega)))))
 have HR:=Lib.hid (show VB w1 (w.heap.size+1) [.int .i64 0,.int .i64 0,.slice none 0 0,.slice none 0 0,.slice none 0 0]from by(with_reducible (repeat' (first|(refine VB.new' ?_;exact(by first|omega|(simp;done)|(simp;omega)))|apply VB.put2|apply VB.put3|apply VB.put5|refine VB.drew ?_|refine VB.far ?_ ?_ _|refine VB.alloc ?_ _|refine VB.gr ?_ HG1.out ?_|omega|(simp;done)|(simp;omega)))))
 have c0:=HX.out.c 0 _ rfl
 have hr1:=HR.out.lt
 go_upto_region 6 with fail
 go_cut [7] (fun s wx=> ∃pb v,s= .pointer (some ⟨pb,0,none⟩)∧VB wx pb [.int .i64 1,.int .i64 (m.pts.length:Int),.slice none 0 0,v,.slice none 0 0]∧w1.heap.size≤pb∧SL pC 10 55 wx w1.heap.size v m.pts∧v.ownBlock≠some pb∧Gr w1.heap.size w1 wx)
 case first=>
  refine wp_region_held_drew (S:=(fun w'=>w'.cell? ⟨w.heap.size,0,none⟩=some (.slice ap m.pts.length cp))) (by kernel_rfl) ?_ (fun hHeld=>?_)
  ·simp [go_sem, *]
  refine tk 0 (some 28) (.int .i64 1) ?_
  try simp only [pS]
  refine tk 1 (some 29) (.pointer (some ⟨w.heap.size,0,none⟩)) ?_
  try simp only [pS]
  refine tk 2 (some 30) (.slice ap m.pts.length cp) ?_
  try simp only [pS]
  refine tk 3 (some 31) (.int .i64 (m.pts.length:Int)) ?_
  try simp only [pS]
  refine tk 4 (some 32) (.pointer (some ⟨w.heap.size,0,none⟩)) ?_
  try simp only [pS]
  refine tk 5 (some 33) (.slice ap m.pts.length cp) ?_
  try simp only [pS]
  refine wpAnyH_ready (rs:= [6,8]) (by kernel_rfl) (by simp) ?_
  refine AllReadyH.cons rfl (fun K hK=>?_) (AllReadyH.cons rfl (fun K hK=>?_) AllReadyH.nil)
  ·go_simp
   (refine(clone_Pt m.pts _ 0 _ (HM.out.1.gr (w':=_) (by(with_reducible (repeat' (first|exact Gr.refl _ _|refine Gr.drew ?_|refine Gr.setCell ?_ ?_ _|refine Gr.alloc ?_ ?_ _|refine Gr.trans ?_ (Gr.mono HG1.out ?_)|omega|(simp;done)|(simp;omega)))))) (by omega)).mono ?_;rintro e w2 ⟨v2,rfl,hS2,hg2⟩;(try (with_reducible replace hg2:=Gr.of_drew hg2));have hsz2:=hg2.size;(try simp at hsz2);have hz2_0:w.heap.size<w2.heap.size:=(by omega);have hz2_1:w.heap.size+1<w2.heap.size:=(by omega);obtain ⟨hc2,hf2⟩:=hg2.cells;have HG2:=Lib.hid hg2;clear hg2;have HS2:=Lib.hid hS2;clear hS2)
   (try dsimp only)
   refine hK.out _ _ ?_ (fun hQ1=>?_)
   ·(first|exact trivial|((try dsimp only);simp [go_sem, *]))
   clear hK K hHeld
   try simp only [pS]
   obtain ⟨a2,c2,rfl⟩:=HS2.out.at
   refine tk 7 (some 35) (.agg #[.int .i64 1,.int .i64 (m.pts.length:Int),.slice none 0 0,.slice a2 m.pts.length c2,.slice none 0 0]) ?_
   try simp only [pS]
   refine rd 8 (fun K hK=>?_)
   go_simp
   (try dsimp only)
   refine hK.out _ _ ?_ (fun hQ2=>?_)
   ·(first|exact trivial|((try dsimp only);simp [go_sem, *]))
   clear hK K hQ1
   try simp only [pS]
   refine rd 9 (fun K hK=>?_)
   go_simp
   (try dsimp only)
   refine hK.out _ _ ?_ (fun hQ3=>?_)
   ·(first|exact trivial|((try dsimp only);simp [go_sem, *]))
   clear hK K hQ2
   try simp only [pS]
   refine wpAnyH_done (by kernel_rfl) ?_ _
   go_wp2_with fail
   go_meet
   refine⟨w2.heap.size,_,rfl,by(with_reducible (repeat' (first|(refine VB.new' ?_;exact(by first|omega|(simp;done)|(simp;omega)))|apply VB.put2|apply VB.put3|apply VB.put5|refine VB.drew ?_|refine VB.far ?_ ?_ _|refine VB.alloc ?_ _|omega|(simp;done)|(simp;omega)))),by omega,?_,?_,?_⟩
   ·exact(HS2.out.gr (by(with_reducible (repeat' (first|exact Gr.refl _ _|refine Gr.drew ?_|refine Gr.setCell ?_ ?_ _|refine Gr.alloc ?_ ?_ _|omega|(simp;done)|(simp;omega)))))).mono (by first|omega|(simp;done)|(simp;omega))
   ·intro e;have:=(own_sl HS2.out _ e).2;omega
   ·(with_reducible (repeat' (first|exact Gr.refl _ _|refine Gr.drew ?_|refine Gr.setCell ?_ ?_ _|refine Gr.alloc ?_ ?_ _|refine Gr.trans ?_ (Gr.mono HG2.out ?_)|omega|(simp;done)|(simp;omega))))
  ·go_simp
   (try dsimp only)
   refine hK.out _ _ ?_ (fun hQ1=>?_)
   ·(first|exact trivial|((try dsimp only);simp [go_sem, *]))
   clear hK K hHeld
   try simp only [pS]
   refine rd 6 (fun K hK=>?_)
   go_simp
   (refine(clone_Pt m.pts _ 0 _ (HM.out.1.gr (w':=_) (by(with_reducible (repeat' (first|exact Gr.refl _ _|refine Gr.drew ?_|refine Gr.setCell ?_ ?_ _|refine Gr.alloc ?_ ?_ _|refine Gr.trans ?_ (Gr.mono HG1.out ?_)|omega|(simp;done)|(simp;omega)))))) (by omega)).mono ?_;rintro e w2 ⟨v2,rfl,hS2,hg2⟩;(try (with_reducible replace hg2:=Gr.of_drew hg2));have hsz2:=hg2.size;(try simp at hsz2);have hz2_0:w.heap.size<w2.heap.size:=(by omega);have hz2_1:w.heap.size+1<w2.heap.size:=(by omega);obtain ⟨hc2,hf2⟩:=hg2.cells;have HG2:=Lib.hid hg2;clear hg2;have HS2:=Lib.hid hS2;clear hS2)
   (try dsimp only)
   refine hK.out _ _ ?_ (fun hQ2=>?_)
   ·(first|exact trivial|((try dsimp only);simp [go_sem, *]))
   clear hK K hQ1
   try simp only [pS]
   obtain ⟨a2,c2,rfl⟩:=HS2.out.at
   refine tk 7 (some 35) (.agg #[.int .i64 1,.int .i64 (m.pts.length:Int),.slice none 0 0,.slice a2 m.pts.length c2,.slice none 0 0]) ?_
   try simp only [pS]
   refine rd 9 (fun K hK=>?_)
   go_simp
   (try dsimp only)
   refine hK.out _ _ ?_ (fun hQ3=>?_)
   ·(first|exact trivial|((try dsimp only);simp [go_sem, *]))
   clear hK K hQ2
   try simp only [pS]
   refine wpAnyH_done (by kernel_rfl) ?_ _
   go_wp2_with fail
   go_meet
   refine⟨w1.heap.size,_,rfl,by(with_reducible (repeat' (first|(refine VB.new' ?_;exact(by first|omega|(simp;done)|(simp;omega)))|apply VB.put2|apply VB.put3|apply VB.put5|refine VB.drew ?_|refine VB.far ?_ ?_ _|refine VB.alloc ?_ _|refine VB.gr ?_ HG2.out ?_|omega|(simp;done)|(simp;omega)))),by omega,?_,?_,?_⟩
   ·refine SL.mono (B:=w1.heap.size+1) ?_ (by omega)
    iterate 5 (refine SL.far ?_ (by first|omega|(simp;done)|(simp;omega)) _)
    exact HS2.out.mono (by first|omega|(simp;done)|(simp;omega))
   ·intro e;have:=(own_sl HS2.out _ e).1;(try simp at this);omega
   ·(with_reducible (repeat' (first|exact Gr.refl _ _|refine Gr.drew ?_|refine Gr.setCell ?_ ?_ _|refine Gr.alloc ?_ ?_ _|refine Gr.trans ?_ (Gr.mono HG2.out ?_)|omega|(simp;done)|(simp;omega))))
 case rest=>
  clear c0
  obtain ⟨wb,hwb⟩:∃q,q=wc:=⟨_,rfl⟩
  subst hwb
  obtain ⟨pb,va,rfl,hTB,hpb,hAt,hne,hgb⟩:=hcut
  have hszb:=hgb.size
  have HGB:=Lib.hid (show Gr w.heap.size w wb from(show Gr w.heap.size w w1 from by(with_reducible (repeat' (first|exact Gr.refl _ _|refine Gr.drew ?_|refine Gr.setCell ?_ ?_ _|refine Gr.alloc ?_ ?_ _|refine Gr.trans ?_ (Gr.mono HG1.out ?_)|omega|(simp;done)|(simp;omega))))).trans (hgb.mono (by first|omega|(simp;done)|(simp;omega))))
  have HX2:=Lib.hid (HX.out.gr hgb HX.out.lt)
  have HR2:=Lib.hid (HR.out.gr hgb HR.out.lt)
  have HTB:=Lib.hid hTB
  have HAT:=Lib.hid hAt
  have HNE:=Lib.hid hne
  have hpl:=hTB.lt
  clear hTB hAt hne hgb HX HR
  obtain ⟨aa,ca,rfl⟩:=HAT.out.at
  have hq0:w.heap.size<wb.heap.size:=HX2.out.lt
  have hmm:= @run_makeMap Tryz.prog
  have c0:=HX2.out.c 0 _ rfl
  have c1:=HX2.out.c 1 _ rfl
  have c2:=HX2.out.c 2 _ rfl
  go_wp2_with fail
  refine(HE.out _ (by(with_reducible (repeat' (first|exact Gr.refl _ _|refine Gr.drew ?_|refine Gr.setCell ?_ ?_ _|refine Gr.alloc ?_ ?_ _|refine Gr.trans ?_ (Gr.mono HGB.out ?_)|omega|(simp;done)|(simp;omega)))))).mono ?_
  rintro e w3 ⟨ve,rfl,hEd,hg3⟩
  have hsz3:=hg3.size
  (try simp at hsz3)
  have HX3:=Lib.hid (show VB w3 (w.heap.size) [.slice ap m.pts.length cp,.slice at_ m.tris.length ct,.slice as_ m.sides.length cs]from(show VB (wb.alloc (.map #[] 0)) (w.heap.size) [.slice ap m.pts.length cp,.slice at_ m.tris.length ct,.slice as_ m.sides.length cs]from HX2.out.alloc _).gr hg3 (by simp;omega))
  have HR3:=Lib.hid (show VB w3 (w.heap.size+1) [.int .i64 0,.int .i64 0,.slice none 0 0,.slice none 0 0,.slice none 0 0]from(show VB (wb.alloc (.map #[] 0)) (w.heap.size+1) [.int .i64 0,.int .i64 0,.slice none 0 0,.slice none 0 0,.slice none 0 0]from HR2.out.alloc _).gr hg3 (by simp;omega))
  have HT3:=Lib.hid (show VB w3 pb _ from(show VB (wb.alloc (.map #[] 0)) pb _ from HTB.out.alloc _).gr hg3 (by simp;omega))
  have HA3:=Lib.hid (show SL pC 10 55 w3 w1.heap.size _ m.pts from(HAT.out.gr (by(with_reducible (repeat' (first|exact Gr.refl _ _|refine Gr.drew ?_|refine Gr.setCell ?_ ?_ _|refine Gr.alloc ?_ ?_ _|omega|(simp;done)|(simp;omega)))))).gr hg3)
  have HI3:=Lib.hid (show MIP w3 wb.heap.size m.pts.length []from(MI.new wb _ _).gr hg3 (by simp))
  have HD3:=Lib.hid (show SR eC 4 84 w3 (wb.heap.size+1) ve es from hEd.mono (by simp))
  have HG3:=Lib.hid (show Gr w.heap.size w w3 from(show Gr w.heap.size w (wb.alloc (.map #[] 0))from by(with_reducible (repeat' (first|exact Gr.refl _ _|refine Gr.drew ?_|refine Gr.setCell ?_ ?_ _|refine Gr.alloc ?_ ?_ _|refine Gr.trans ?_ (Gr.mono HGB.out ?_)|omega|(simp;done)|(simp;omega))))).trans (hg3.mono (by first|omega|(simp;done)|(simp;omega))))
  have HO3:=Lib.hid (fun g (e:(Value.slice aa m.pts.length ca).ownBlock=some g)=>(own_sl HAT.out g e).2)
  clear HX2 HR2 HTB HAT HGB hg3 hEd hmm c0 c1 c2
  obtain ⟨ae,ce,rfl⟩:=HD3.out.at
  have hq1:pb<wb.heap.size:=hpl
  generalize hmb:wb.heap.size=mb at *
  clear hmb
  have hq2:w.heap.size+1<pb:=by omega
  have hq3:w.heap.size+1<w1.heap.size:=hr1
  rename_i K0 hK0 K1 hK1 K2 hK2
  have hK9:∀a w',Met (fun a w'=>Code.wp Tryz.prog (tlO 17) (bodyPost Tryz.prog (Tryz.f5) (fun e w'=> ∃x y z,e= .returned (.tuple #[.agg #[.int .i64 1,.int .i64 ((m.pts.length+0:Nat):Int),x,y,z],.int .i64 0])∧RWr w' w.heap.size x (m.tris.map (rowT 1 m.pts.length es))∧SR pC 10 55 w' w.heap.size y (m.pts)∧SR i2C 2 85 w' w.heap.size z (es.map abE)∧Gr w.heap.size w w')) a w') a w'→K0 a w':=fun a w' h=>hK0 a w' h
  clear hK0
  go_wp2_with fail
  have hw3:mb+1≤w3.heap.size:=by omega
  have hmw:w.heap.size<mb:=by omega
  clear hq0
  obtain ⟨b3,hb3⟩:∃q,w3.heap.size=q:=⟨_,rfl⟩
  have HDO:=Lib.hid (fun g (e:(Value.slice ae es.length ce).ownBlock=some g)=>show g<b3 from hb3 ▸ (HD3.out.own_lt e).2)
  have hb4:b3≤w3.heap.size:=by omega
  have hb5:mb+1≤b3:=by omega
  clear hb3
  go_loopw [40] (fun s wr=> ∃(i:Nat) (va vn:Value),i≤es.length∧s= .int .i64 i∧Hid (VB wr pb [.int .i64 1,.int .i64 ((m.pts.length+0:Nat):Int),.slice none 0 0,va,vn])∧Hid (SL pC 10 55 wr w1.heap.size va (m.pts))∧Hid (SL i2C 2 85 wr b3 vn ((es.take i).map abE))∧Hid (MIP wr mb m.pts.length (es.take i))∧Hid (SR eC 4 84 wr (mb+1) (.slice ae es.length ce) es)∧Hid (VB wr w.heap.size [.slice ap m.pts.length cp,.slice at_ m.tris.length ct,.slice as_ m.sides.length cs])∧Hid (VB wr (w.heap.size+1) [.int .i64 0,.int .i64 0,.slice none 0 0,.slice none 0 0,.slice none 0 0])∧Hid (∀g,va.ownBlock=some g→(g<mb∧g≠pb)∨b3≤g)∧Hid (∀g,va.ownBlock=some g→vn.ownBlock≠some g)∧Hid (Gr w.heap.size w wr)∧b3≤wr.heap.size) (fun s _=>es.length - (intOf s).toNat)
  case atStart=>exact⟨0,_,_,Nat.zero_le _,rfl,HT3,by simpa using HA3,Lib.hid SL.nil,by simpa using HI3,HD3,HX3,HR3,Lib.hid (fun g e=> .inl ⟨HO3.out g e,fun e2=>HNE.out (e2 ▸ e)⟩),Lib.hid (fun g e=>by simp [Value.ownBlock]),HG3,by omega⟩
  case round=>
   clear HT3 HA3 HI3 HD3 HX3 HR3 HO3 HNE HG3
   obtain ⟨i,va,vn,hi,rfl,HT,HA,HN,HI,HD,HX,HR,HO,HV,HG,hb⟩:=hrel
   obtain ⟨al,hal⟩:∃q,m.pts=q:=⟨_,rfl⟩
   rw [hal]at HA
   have hall:al.length≤4000:=by rw [←hal];(try simp);omega
   replace hal:=Lib.hid hal
   obtain ⟨nl,hnl⟩:∃q,(es.take i).map abE=q:=⟨_,rfl⟩
   rw [hnl]at HN
   have hnll:nl.length=i:=by rw [←hnl];simp;omega
   have hnle:nl.length≤3000:=by omega
   have hnlx:=Lib.hid hnll
   clear hnll
   replace hnl:=Lib.hid hnl
   obtain ⟨aA,cA,rfl⟩:=HA.out.at
   obtain ⟨aN,cN,rfl⟩:=HN.out.at
   have htl:=HT.out.lt
   have hxl:=HX.out.lt
   have hrl:=HR.out.lt
   have hil:=HI.out.lt
   by_cases hlt:i<es.length
   ·have q0:(i:Int)<(es.length:Int):=by omega
    obtain ⟨ed,hed⟩:∃x,es[i]=x:=⟨_,rfl⟩
    obtain ⟨p,q,hp,hq,hpN,hqN⟩:=HES.out ed (hed ▸ List.getElem_mem hlt)
    obtain ⟨ea,eb,el,er⟩:=ed
    dsimp only at hp hq
    subst hp hq
    have hmiss:=numP_miss (n:=m.pts.length) (l:=es.take i) (a:=(p:Int)) (b:=(q:Int)) (fun e he hab=>by
     obtain ⟨j,hj,rfl⟩:=List.getElem_of_mem he
     simp at hj
     have h7:=List.pairwise_iff_getElem.1 HND.out j i (by omega) hlt (by omega)
     rw [hed]at h7
     exact h7 (by simpa [List.getElem_take] using hab))
    have HMISS:=Lib.hid hmiss
    clear hmiss
    obtain ⟨g,cap',e4,hgB,_,_,hsh,hR⟩:=HD.out.block (by intro e;rw [e]at hlt;simp at hlt)
    injection e4 with e4 _ e5
    subst e4 e5
    have hglt:=hsh.lt
    obtain ⟨u0,u1,u2,u3⟩:=hR.fE hlt hed
    clear hR hsh
    dsimp only at u0 u1 u2 u3
    have hnext1:Hid ((es.take (i+1)).map abE=nl++ [((p:Int),(q:Int))]):=Lib.hid (by rw [List.take_add_one,List.getElem?_eq_getElem hlt,hed,List.map_append,hnl.out];rfl)
    have hnext2:Hid (numP m.pts.length (es.take (i+1))=numP m.pts.length (es.take i)++ [(endK p q,.int .i64 ((m.pts.length:Int)+(i:Int)))]):=Lib.hid (by rw [List.take_add_one,List.getElem?_eq_getElem hlt,hed];simp only [Option.toList_some];rw [numP_snoc,List.length_take,Nat.min_eq_left (by omega),Int.natCast_add])
    clear hed
    have t4:=HT.out.c 4 _ rfl
    go_upto_region 11 with fail
    obtain ⟨iP,hiP,hz0,hz1,hz2⟩:=info_parts info_bPair
    have HIP:=Lib.hid (And.intro hiP (And.intro hz0 (And.intro hz1 hz2)))
    clear hiP hz0 hz1 hz2 u2 u3
    have hpb3:pb<b3:=by omega
    go_upto_region 12 with(at_builtin;refine wpList_appS _ rfl _ _ 34 rfl b3 iP _ 16 Tryz.underlying34 HIP.out.1 HIP.out.2.1 HIP.out.2.2.1 HIP.out.2.2.2 rfl (by decide) i2C_len i2C_one _ nl rfl (HN.out.gr (by(with_reducible (repeat' (first|exact Gr.refl _ _|refine Gr.drew ?_|refine Gr.setCell ?_ ?_ _|refine Gr.alloc ?_ ?_ _|omega|(simp;done)|(simp;omega)))))) (wr.heap.size+1) 1 [((p:Int),(q:Int))] 1 rfl rfl (by first|exact RC.new1' (by simp) rfl|exact RC.drew (RC.new1' (by simp) rfl)) (by unfold maxLen;simp;omega) (by simp;omega) (by simp;omega) ?_;intro v4 w4 hS4 hkp4 hown4;(obtain ⟨nl2,hnl2⟩:∃q',nl++ [((p:Int),(q:Int))]=q':=⟨_,rfl⟩);rw [hnl2]at hS4;obtain ⟨a4,c4,e4'⟩:=hS4.at;subst e4';replace hnl2:=Lib.hid hnl2;have hsz4:=hkp4.g.size;(try simp at hsz4);have HOW4:=Lib.hid (show(Value.slice a4 nl2.length c4).ownBlock=(Value.slice aN nl.length cN).ownBlock∨(Value.slice a4 nl2.length c4).ownBlock=some (wr.heap.size+1+1)from hown4.imp id (fun e=>e.trans (by simp)));have HGA:=Lib.hid (show Kp wr w4 (Value.slice aN nl.length cN).ownBlock from((show Gr wr.heap.size wr _ from by(with_reducible (repeat' (first|exact Gr.refl _ _|refine Gr.drew ?_|refine Gr.setCell ?_ ?_ _|refine Gr.alloc ?_ ?_ _|omega|(simp;done)|(simp;omega))))).kp _).trans hkp4);have HEB4:=Lib.hid (VB.kp (g:=wr.heap.size) (cs:= [.int .i64 (p:Int),.int .i64 (q:Int),.int .i64 el,.int .i64 er]) (by(with_reducible (repeat' (first|(refine VB.new' ?_;exact(by first|omega|(simp;done)|(simp;omega)))|apply VB.put2|apply VB.put3|apply VB.put5|refine VB.drew ?_|refine VB.far ?_ ?_ _|refine VB.alloc ?_ _|omega|(simp;done)|(simp;omega))))) hkp4 (fun e=>by have:=(own_sl HN.out _ e.symm).2;omega));have HT4:=HT.out.kp HGA.out (fun e=>by have:=(own_sl HN.out _ e.symm).1;omega);have t40:=HT4.c 4 _ rfl;have t41:=HT4.f 4 (by simp);replace HT4:=Lib.hid HT4;have HS4:=Lib.hid hS4;clear hS4 hkp4 hown4 t4)
    have hns2:nl2.length=nl.length+1:=by rw [←hnl2.out];simp
    have hni:nl.length=i:=hnlx.out
    have k5:Kp w4 (w4.setCell ⟨pb,4,none⟩ (.slice a4 nl2.length c4)) (some pb):=Kp.sets w4 pb 4 [.slice a4 nl2.length c4]
    have HT5:=Lib.hid (show VB (w4.setCell ⟨pb,4,none⟩ (.slice a4 nl2.length c4)) pb _ from HT4.out.one 4 (.slice a4 nl2.length c4) (by simp))
    have HN5:=Lib.hid (k5.sl HS4.out (fun g e e2=>by have:=(own_sl HS4.out g e).1;have:=Option.some.inj e2;omega))
    have HA5:=Lib.hid (k5.sl (HGA.out.sl HA.out (fun g e e2=>HV.out g e e2.symm)) (fun g e e2=>by have:=HO.out g e;have:=Option.some.inj e2;omega))
    have HI5:=Lib.hid ((HI.out.kp HGA.out (fun e=>by have:=(own_sl HN.out _ e.symm).1;omega)).kp k5 (fun e=>by have:=Option.some.inj e;omega))
    have HD5:=Lib.hid (SR.kp (SR.kp HD.out HGA.out (fun g' e e2=>by have:=HDO.out g' e;have:=(own_sl HN.out g' e2.symm).1;omega)) k5 (fun g' e e2=>by have:=(HD.out.own_lt e).1;have:=Option.some.inj e2;omega))
    have HX5:=Lib.hid ((HX.out.kp HGA.out (fun e=>by have:=(own_sl HN.out _ e.symm).1;omega)).kp k5 (fun e=>by have:=Option.some.inj e;omega))
    have HR5:=Lib.hid ((HR.out.kp HGA.out (fun e=>by have:=(own_sl HN.out _ e.symm).1;omega)).kp k5 (fun e=>by have:=Option.some.inj e;omega))
    have HEB5:=Lib.hid (HEB4.out.kp k5 (fun e=>by have:=Option.some.inj e;omega))
    have HG5:=Lib.hid ((HG.out.trans (HGA.out.gr (fun b e=>by have:=(own_sl HN.out b e).1;omega) (by omega))).trans (k5.gr (fun b e=>by have:=Option.some.inj e;omega) (by omega)))
    clear k5 t40 t41
    have hz5:(w4.setCell ⟨pb,4,none⟩ (.slice a4 nl2.length c4)).heap.size=w4.heap.size:=by simp
    generalize w4.setCell ⟨pb,4,none⟩ (.slice a4 nl2.length c4)=w5 at *
    obtain ⟨ga,ca2,e4,_,_,_,hsh,hR⟩:=HN5.out.block (by intro e;rw [e]at hns2;simp at hns2)
    injection e4 with e4 _ e5
    subst e4 e5
    have hga:=hsh.lt
    have hx2:nl2[i]? =some ((p:Int),(q:Int)):=by rw [←hnl2.out,←hni];simp
    obtain ⟨hx3,hx4⟩:=List.getElem?_eq_some_iff.1 hx2
    obtain ⟨v0,v1⟩:=hR.fI2 hx3 hx4
    clear hR hsh hx2 hx4
    dsimp only at v0 v1
    have t4:=HT5.out.c 4 _ rfl
    have x0:=HX5.out.c 0 _ rfl
    have hkey:keyOf Tryz.prog kP (endK p q)=some (klT p q):=keyOf_P (by omega) (by omega)
    obtain ⟨w6,hrun,hmi6,hkp6,hsz6⟩:=MI.upd_new (w:=w5.drew) (val:= .int .i64 ((m.pts.length:Int)+(i:Int))) HI5.out.drew keyed_P under_P hkey HMISS.out (by rw [numP_len];simp [maxLen];omega)
    have q6:IntKind.i64.wrap ((m.pts.length:Int)+(i:Int))=(m.pts.length:Int)+(i:Int):=wrap64_id (by omega) (by omega)
    have lp5:=HT5.out.lt
    have lx5:=HX5.out.lt
    have y0:w6.cell? ⟨pb,4,none⟩=_:=(hkp6.cell (b:=pb) (o:=4) lp5 (fun e=>by have:=Option.some.inj e;omega)).trans t4
    have y1:w6.cell? ⟨ga,i*2,none⟩=_:=(hkp6.cell (b:=ga) (o:=i*2) hga (fun e=>by have:=Option.some.inj e;have:=(own_sl HN5.out ga rfl).1;omega)).trans v0
    have y2:w6.cell? ⟨ga,i*2+1,none⟩=_:=(hkp6.cell (b:=ga) (o:=i*2+1) hga (fun e=>by have:=Option.some.inj e;have:=(own_sl HN5.out ga rfl).1;omega)).trans v1
    have y3:w6.cell? ⟨w.heap.size,0,none⟩=_:=(hkp6.cell (b:=w.heap.size) (o:=0) lx5 (fun e=>by have:=Option.some.inj e;omega)).trans x0
    have HKP6:=Lib.hid hkp6
    have HMI6:=Lib.hid (show MIP w6 mb m.pts.length (es.take (i+1))from by show MI _ _ _ _ (numP _ _);rw [hnext2.out];exact hmi6)
    clear hkey hmi6 hkp6
    have q7:(i:Int)<(nl2.length:Int):=by omega
    have hi0:(0:Int)≤(i:Int):=by omega
    have HNS:=Lib.hid (And.intro hns2 hni)
    clear hns2 hni
    refine wp_region_held_drew (S:=(fun w'=>w'.cell? ⟨pb,4,none⟩=some (.slice (some ⟨ga,0,none⟩) nl2.length c4)∧w'.cell? ⟨ga,i*2,none⟩=some (.int .i64 (p:Int))∧w'.cell? ⟨ga,i*2+1,none⟩=some (.int .i64 (q:Int))∧w'.cell? ⟨w.heap.size,0,none⟩=some (.slice ap m.pts.length cp))) (by kernel_rfl) ?_ (fun hHeld=>?_)
    ·simp [go_sem, *]
    refine tk 0 (some 55) (.map (some mb)) ?_
    try simp only [pS]
    refine tk 1 (some 56) (.pointer (some ⟨pb,4,none⟩)) ?_
    try simp only [pS]
    refine tk 2 (some 57) (.slice (some ⟨ga,0,none⟩) nl2.length c4) ?_
    try simp only [pS]
    refine tk 3 (some 58) (.int .i64 (i:Int)) ?_
    try simp only [pS]
    refine tk 4 (some 59) (.pointer (some ⟨ga,i*2,none⟩)) ?_
    try simp only [pS]
    refine tk 5 (some 60) (.agg #[.int .i64 (p:Int),.int .i64 (q:Int)]) ?_
    try simp only [pS]
    refine tk 6 (some 61) (.pointer (some ⟨w.heap.size,0,none⟩)) ?_
    try simp only [pS]
    refine tk 7 (some 62) (.slice ap m.pts.length cp) ?_
    try simp only [pS]
    refine tk 8 (some 63) (.int .i64 (m.pts.length:Int)) ?_
    try simp only [pS]
    refine tk 9 (some 64) (.int .i64 (i:Int)) ?_
    try simp only [pS]
    refine tk 10 (some 65) (.int .i64 ((m.pts.length:Int)+(i:Int))) ?_
    try simp only [pS]
    refine rd 11 (fun K hK=>?_)
    go_simp
    (try dsimp only)
    refine hK.out _ _ ?_ (fun hQ1=>?_)
    ·(first|exact trivial|((try dsimp only);simp [go_sem, *]))
    clear hK K hHeld
    try simp only [pS]
    refine wpAnyH_done (by kernel_rfl) ?_ _
    have nemb:∀b,b≠mb→some b≠some mb:=fun b h e=>h (Option.some.inj e)
    have HT6:=Lib.hid (HT5.out.drew.kp HKP6.out (nemb _ (by omega)))
    have HX6:=Lib.hid (HX5.out.drew.kp HKP6.out (nemb _ (by omega)))
    have HR6:=Lib.hid (HR5.out.drew.kp HKP6.out (nemb _ (by omega)))
    have HEB6:=Lib.hid (HEB5.out.drew.kp HKP6.out (nemb _ (by omega)))
    have HN6:=Lib.hid (HKP6.out.sl (HN5.out.gr (show Gr w5.heap.size w5 w5.drew from by(with_reducible (repeat' (first|exact Gr.refl _ _|refine Gr.drew ?_|refine Gr.setCell ?_ ?_ _|refine Gr.alloc ?_ ?_ _|omega|(simp;done)|(simp;omega)))))) (fun g e e2=>by have:=(own_sl HN5.out g e).1;have:=Option.some.inj e2;omega))
    have HA6:=Lib.hid (HKP6.out.sl (HA5.out.gr (show Gr w5.heap.size w5 w5.drew from by(with_reducible (repeat' (first|exact Gr.refl _ _|refine Gr.drew ?_|refine Gr.setCell ?_ ?_ _|refine Gr.alloc ?_ ?_ _|omega|(simp;done)|(simp;omega)))))) (fun g e e2=>by have:=HO.out g e;have:=Option.some.inj e2;omega))
    have HD6:=Lib.hid (SR.kp (HD5.out.gr (show Gr w5.heap.size w5 w5.drew from by(with_reducible (repeat' (first|exact Gr.refl _ _|refine Gr.drew ?_|refine Gr.setCell ?_ ?_ _|refine Gr.alloc ?_ ?_ _|omega|(simp;done)|(simp;omega)))))) HKP6.out (fun g e e2=>by have:=(HD.out.own_lt e).1;have:=Option.some.inj e2;omega))
    have HG6:=Lib.hid ((HG5.out.trans (show Gr w.heap.size w5 w5.drew from by(with_reducible (repeat' (first|exact Gr.refl _ _|refine Gr.drew ?_|refine Gr.setCell ?_ ?_ _|refine Gr.alloc ?_ ?_ _|omega|(simp;done)|(simp;omega)))))).trans (HKP6.out.gr (fun b e=>by have:=Option.some.inj e;omega) (by simp;omega)))
    have hsz7:wr.heap.size+1+1≤w6.heap.size:=by rw [hsz6];simp;omega
    clear HT5 HX5 HR5 HEB5 HN5 HA5 HD5 HG5 HI5 HKP6 nemb t4 x0 v0 v1 hrun y0 y1 y2 y3 q7 lp5 lx5 hQ1 q6 hsz6 hz5 hsz4 hga hx3
    have HO':=HO
    have HV':=Lib.hid (fun g (e:(Value.slice aA al.length cA).ownBlock=some g) (e2:(Value.slice (some ⟨ga,0,none⟩) nl2.length c4).ownBlock=some g)=>by
     rcases HOW4.out with h|h
     ·exact HV.out g e (h ▸ e2)
     ·rw [h]at e2;have:=(own_sl HA.out g e).2;have:=Option.some.inj e2;omega)
    go_wp2
    go_roundw
    case rel=>exact⟨i+1,.slice aA al.length cA,.slice (some ⟨ga,0,none⟩) nl2.length c4,by omega,by go_num,HT6,Lib.hid (by rw [hal.out];exact HA6.out),Lib.hid (by rw [hnext1.out,hnl2.out];exact HN6.out),HMI6,HD6,HX6,HR6,HO,Lib.hid HV'.out,HG6,by omega⟩
    case measure=>simp [intOf];omega
   ·have hil2:i=es.length:=by omega
    subst hil2
    have e9:es.take es.length=es:=List.take_length
    rw [e9]at HI
    have hnl9:nl=es.map abE:=by rw [←hnl.out,e9]
    subst hnl9
    have hal9:al=m.pts:=by rw [←hal.out]
    subst hal9
    clear e9
    go_wp2_with fail
    refine Met.intro ?_
    exact of17_1 w wr m es _ at_ aA aN ct cA cN _ _ pb mb _ _ HG.out HX.out HR.out HT.out (by omega) hN hT he (HA.out.mono (by omega)) (HN.out.mono (by omega)) (fun e=>by have:=HO.out pb e;omega) (fun e=>by have:=(own_sl HN.out pb e).1;omega) HI.out (by omega) HM.out.2.1 HL.out
end Go.Proofs.YtjijceliboaeaaaGreatDoor
