/-
  Part 29 of the proof: MeshG ChkR ChkG.
-/
import Derived.Test.YtjijceliboaeaaaGreatDoorJ19
import Derived.Test.YtjijceliboaeaaaGreatDoorJ25
import Derived.Test.YtjijceliboaeaaaGreatDoorJ26
import Derived.Test.YtjijceliboaeaaaGreatDoorJ28
set_option linter.unusedSimpArgs false
set_option linter.unusedVariables false
namespace Go.Proofs.YtjijceliboaeaaaGreatDoor
open Go.RowKit Gus
set_option maxRecDepth 20000 in
set_option maxHeartbeats 4000000 in
theorem rimmed_raw (m:Msh) (rs:List Tri) (vp vt vs:Value) (w:World) (hM:MS w 0 vp vt vs m) (hR:∀W,MS W 0 vp vt vs m→Calls Tryz.prog 58 #[vp,vt] W (fun e w'=> ∃v,e= .returned v∧SR triC 3 79 w' 0 v rs∧Gr W.heap.size W w'))
  (hlm:m.sides.map (fun t=>(t.1,t.2.1))=rs.map (fun t=>(t.1,t.2.1))):Calls Tryz.prog 42 #[.agg #[vp,vt,vs]] w (Ret w (.bool true)):=by
 have HM:=Lib.hid hM
 have hR:=Lib.hid hR
 have HL:=Lib.hid hlm
 obtain ⟨hP,hT,hS⟩:=hM
 obtain ⟨ap,cp,rfl⟩:=hP.at
 obtain ⟨at_,ct,rfl⟩:=hT.at
 obtain ⟨as_,cs,rfl⟩:=hS.at
 clear hP hT hS hlm
 go_enter Tryz.func42,Tryz.ntmps42
 go_wp2_with fail
 refine wp_region_held_drew (S:=(fun w'=>w'.cell? ⟨w.heap.size,0,none⟩=some (.slice ap m.pts.length cp)∧w'.cell? ⟨w.heap.size,1,none⟩=some (.slice at_ m.tris.length ct)∧w'.cell? ⟨w.heap.size,2,none⟩=some (.slice as_ m.sides.length cs))) (by kernel_rfl) ?_ (fun hHeld=>?_)
 ·simp [go_sem, *]
 refine tk 0 (some 3) (.pointer (some ⟨w.heap.size,2,none⟩)) ?_
 try simp only [pS]
 refine tk 1 (some 4) (.slice as_ m.sides.length cs) ?_
 try simp only [pS]
 refine tk 2 (some 5) (.pointer (some ⟨w.heap.size,0,none⟩)) ?_
 try simp only [pS]
 refine tk 3 (some 6) (.slice ap m.pts.length cp) ?_
 try simp only [pS]
 refine tk 4 (some 7) (.pointer (some ⟨w.heap.size,1,none⟩)) ?_
 try simp only [pS]
 refine tk 5 (some 8) (.slice at_ m.tris.length ct) ?_
 try simp only [pS]
 refine rd 6 (fun K hK=>?_)
 go_simp
 (refine(hR.out _ (by exact HM.out.gr (by(with_reducible (repeat' (first|exact Gr.refl _ _|refine Gr.drew ?_|refine Gr.setCell ?_ ?_ _|refine Gr.alloc ?_ ?_ _|omega|(simp;done)|(simp;omega))))))).mono ?_;rintro e w2 ⟨v2,rfl,hS2,hg2⟩;(try (with_reducible replace hg2:=Gr.of_drew hg2));have hsz2:=hg2.size;(try simp at hsz2);have hz2_0:w.heap.size<w2.heap.size:=(by omega);obtain ⟨hc2,hf2⟩:=hg2.cells;have HG2:=Lib.hid hg2;clear hg2;have HS2:=Lib.hid hS2;clear hS2)
 (try dsimp only)
 refine hK.out _ _ ?_ (fun hH2=>?_)
 ·(first|exact trivial|((try dsimp only);simp [go_sem, *]))
 clear hK K hHeld
 try simp only [pS]
 refine rd 7 (fun K hK=>?_)
 go_simp
 (refine(same_Side m.sides rs _ v2 _ (by exact HM.out.2.2.gr (by(with_reducible (repeat' (first|exact Gr.refl _ _|refine Gr.drew ?_|refine Gr.setCell ?_ ?_ _|refine Gr.alloc ?_ ?_ _|refine Gr.trans ?_ (Gr.mono HG2.out ?_)|omega|(simp;done)|(simp;omega)))))) (by exact HS2.out.gr (by(with_reducible (repeat' (first|exact Gr.refl _ _|refine Gr.drew ?_|refine Gr.setCell ?_ ?_ _|refine Gr.alloc ?_ ?_ _|omega|(simp;done)|(simp;omega)))))) HL.out).mono ?_;rintro e w3 ⟨rfl,hg3⟩;(try (with_reducible replace hg3:=Gr.of_drew hg3));have hsz3:=hg3.size;(try simp at hsz3);have hz3_0:w.heap.size<w3.heap.size:=(by omega);obtain ⟨hc3,hf3⟩:=hg3.cells;have HG3:=Lib.hid hg3;clear hg3)
 (try dsimp only)
 refine hK.out _ _ ?_ (fun hH3=>?_)
 ·(first|exact trivial|((try dsimp only);simp [go_sem, *]))
 clear hK K hH2
 try simp only [pS]
 refine tk 8 (some 2) (.bool true) ?_
 try simp only [pS]
 refine wpAnyH_done (by kernel_rfl) ?_ _
 go_wp2
 go_ret
 exact⟨rfl,by(with_reducible (repeat' (first|exact Gr.refl _ _|refine Gr.drew ?_|refine Gr.setCell ?_ ?_ _|refine Gr.alloc ?_ ?_ _|refine Gr.trans ?_ (Gr.mono HG3.out ?_)|refine Gr.trans ?_ (Gr.mono HG2.out ?_)|omega|(simp;done)|(simp;omega))))⟩
end Go.Proofs.YtjijceliboaeaaaGreatDoor
namespace Go.Proofs.YtjijceliboaeaaaGreatDoor
open Go.RowKit Gus Go.Maps
set_option maxRecDepth 20000 in
set_option maxHeartbeats 8000000 in
theorem msCheck_raw (m:Msh) (vp vt vs:Value) (w:World) (hM:MS w 0 vp vt vs m) (hp:m.pts.length≤4096) (ht:m.tris.length≤8192) (hs:m.sides.length≤24576)
  (h1:∀W,MS W 0 vp vt vs m→Calls Tryz.prog 39 #[.agg #[vp,vt,vs]] W (Ret W (.bool true))) (h2:∀W,MS W 0 vp vt vs m→Calls Tryz.prog 40 #[.agg #[vp,vt,vs]] W (Ret W (.bool true)))
  (h3:∀W,MS W 0 vp vt vs m→Calls Tryz.prog 41 #[.agg #[vp,vt,vs]] W (Ret W (.bool true))) (h4:∀W,MS W 0 vp vt vs m→Calls Tryz.prog 42 #[.agg #[vp,vt,vs]] W (Ret W (.bool true))):
  Calls Tryz.prog 15 #[.agg #[vp,vt,vs]] w (Ret w (.int .i64 0)):=by
 have HM:=Lib.hid hM
 have h1:=Lib.hid h1
 have h2:=Lib.hid h2
 have h3:=Lib.hid h3
 have h4:=Lib.hid h4
 obtain ⟨a0,b0,rfl⟩:=hM.1.at
 obtain ⟨a1,b1,rfl⟩:=hM.2.1.at
 obtain ⟨a2,b2,rfl⟩:=hM.2.2.at
 have q1:¬((4096:Int)<(m.pts.length:Int)):=by omega
 have q2:¬((8192:Int)<(m.tris.length:Int)):=by omega
 have q3:¬((24576:Int)<(m.sides.length:Int)):=by omega
 clear hM hp ht hs
 go_enter Tryz.func15,Tryz.ntmps15
 go_wp2_with fail
 (refine(h1.out _ (HM.out.gr (by(with_reducible (repeat' (first|exact Gr.refl _ _|refine Gr.drew ?_|refine Gr.setCell ?_ ?_ _|refine Gr.alloc ?_ ?_ _|omega|(simp;done)|(simp;omega))))))).mono ?_;rintro e w1 ⟨rfl,hg1⟩;(try (with_reducible replace hg1:=Gr.of_drew hg1));have hsz1:=hg1.size;(try simp at hsz1);have hz1_0:w.heap.size<w1.heap.size:=(by omega);obtain ⟨hc1,hf1⟩:=hg1.cells;have HG1:=Lib.hid hg1;clear hg1)
 go_wp2_with fail
 (refine(h2.out _ (HM.out.gr (by(with_reducible (repeat' (first|exact Gr.refl _ _|refine Gr.drew ?_|refine Gr.setCell ?_ ?_ _|refine Gr.alloc ?_ ?_ _|refine Gr.trans ?_ (Gr.mono HG1.out ?_)|omega|(simp;done)|(simp;omega))))))).mono ?_;rintro e w2 ⟨rfl,hg2⟩;(try (with_reducible replace hg2:=Gr.of_drew hg2));have hsz2:=hg2.size;(try simp at hsz2);have hz2_0:w.heap.size<w2.heap.size:=(by omega);obtain ⟨hc2,hf2⟩:=hg2.cells;have HG2:=Lib.hid hg2;clear hg2)
 go_wp2_with fail
 (refine(h3.out _ (HM.out.gr (by(with_reducible (repeat' (first|exact Gr.refl _ _|refine Gr.drew ?_|refine Gr.setCell ?_ ?_ _|refine Gr.alloc ?_ ?_ _|refine Gr.trans ?_ (Gr.mono HG2.out ?_)|refine Gr.trans ?_ (Gr.mono HG1.out ?_)|omega|(simp;done)|(simp;omega))))))).mono ?_;rintro e w3 ⟨rfl,hg3⟩;(try (with_reducible replace hg3:=Gr.of_drew hg3));have hsz3:=hg3.size;(try simp at hsz3);have hz3_0:w.heap.size<w3.heap.size:=(by omega);obtain ⟨hc3,hf3⟩:=hg3.cells;have HG3:=Lib.hid hg3;clear hg3)
 go_wp2_with fail
 (refine(h4.out _ (HM.out.gr (by(with_reducible (repeat' (first|exact Gr.refl _ _|refine Gr.drew ?_|refine Gr.setCell ?_ ?_ _|refine Gr.alloc ?_ ?_ _|refine Gr.trans ?_ (Gr.mono HG3.out ?_)|refine Gr.trans ?_ (Gr.mono HG2.out ?_)|refine Gr.trans ?_ (Gr.mono HG1.out ?_)|omega|(simp;done)|(simp;omega))))))).mono ?_;rintro e w4 ⟨rfl,hg4⟩;(try (with_reducible replace hg4:=Gr.of_drew hg4));have hsz4:=hg4.size;(try simp at hsz4);have hz4_0:w.heap.size<w4.heap.size:=(by omega);obtain ⟨hc4,hf4⟩:=hg4.cells;have HG4:=Lib.hid hg4;clear hg4)
 go_wp2
 go_ret
 exact⟨rfl,by(with_reducible (repeat' (first|exact Gr.refl _ _|refine Gr.drew ?_|refine Gr.setCell ?_ ?_ _|refine Gr.alloc ?_ ?_ _|refine Gr.trans ?_ (Gr.mono HG4.out ?_)|refine Gr.trans ?_ (Gr.mono HG3.out ?_)|refine Gr.trans ?_ (Gr.mono HG2.out ?_)|refine Gr.trans ?_ (Gr.mono HG1.out ?_)|omega|(simp;done)|(simp;omega))))⟩
end Go.Proofs.YtjijceliboaeaaaGreatDoor
namespace Go.Proofs.YtjijceliboaeaaaGreatDoor
open Go.RowKit Gus Go.Maps
theorem tri_at {L:List T2} (P:List P2) {j:Nat} (hj:j<L.length):(L.map (triOf P))[j]? =some (triOf P L[j]):=by rw [List.getElem?_map,List.getElem?_eq_getElem hj];rfl
theorem hasT_tri {P:List P2} {t:T2} (h:t.1∈P∧t.2.1∈P∧t.2.2∈P) {q:P2} (hq:q∈P):hasT (triOf P t) (P.idxOf q)=hasP t q:=by
 rw [←has3_tri h hq]
 unfold hasT has3
 have e:∀a b:Nat,(((b:Nat):Int) == ((a:Nat):Int))=(a == b):=fun a b=>by
  by_cases h1:a=b
  ·subst h1;simp
  ·have h2:¬(b:Int)=(a:Int):=by omega
   rw [beq_eq_false_iff_ne.2 h2,beq_eq_false_iff_ne.2 h1]
 simp only [List.contains_cons,List.contains_nil,Bool.or_false,e,Bool.or_assoc]
theorem Net.ok {P:List P2} {L:List T2} (h:Net P L) {i j:Nat} (hi:i<L.length) (hj:j<L.length) (hne:i≠j):okB L[i] L[j]=true:=by
 rcases Nat.lt_or_gt_of_ne hne with hlt|hlt
 ·exact List.pairwise_iff_getElem.1 h.pair i j hi hj hlt
 ·have h1:=List.pairwise_iff_getElem.1 h.pair j i hj hi hlt
  unfold okB at h1 ⊢
  simp only [Bool.and_eq_true]at h1 ⊢
  exact⟨⟨⟨h1.1.1.2,h1.1.1.1⟩,h1.2⟩,h1.1.2⟩
theorem right_pt {k:K4} {d:Nat} (hk:0<det4 k) (hd:0<d) {p q:P2} {u:T2} (h:rightB p q u=true):rightP (ptM k d p) (ptM k d q) [ptM k d u.1,ptM k d u.2.1,ptM k d u.2.2]=true:=by
 unfold rightB at h
 simp only [Bool.and_eq_true,decide_eq_true_eq]at h
 unfold rightP
 simp only [List.any_cons,List.any_nil,Bool.or_false,turn_pt hk hd,Bool.not_eq_true',Bool.or_eq_false_iff,decide_eq_false_iff_not,sgn_pos]
 omega
theorem bey_pt {k:K4} {d:Nat} (hk:0<det4 k) (hd:0<d) {t u:T2} (h:beyB t u=true):beyP (ptM k d t.1) (ptM k d t.2.1) (ptM k d t.2.2) [ptM k d u.1,ptM k d u.2.1,ptM k d u.2.2]=true:=by
 unfold beyB at h
 simp only [Bool.or_eq_true]at h
 unfold beyP
 rcases h with(h|h)|h<;>simp [right_pt hk hd h]
theorem out_at {P:List P2} {L:List T2} (h:Net P L) {i:Nat} (hi:i<L.length) {q:P2} (hq:q∈P) (hn:hasP L[i] q=false):outB L[i] q=true:=by
 obtain ⟨u,hu,hc⟩:=(h.mem q).1 hq
 obtain ⟨j,hj,rfl⟩:=List.getElem_of_mem hu
 have hne:i≠j:=fun e=>by subst e;rw [hc]at hn;cases hn
 have ho:=h.ok hi hj hne
 unfold okB outT at ho
 simp only [Bool.and_eq_true,Bool.or_eq_true]at ho
 obtain ⟨⟨_,h1⟩,_⟩:=ho
 unfold hasP at hc
 simp only [Bool.or_eq_true,beq_iff_eq]at hc
 rcases hc with(hc|hc)|hc
 ·rw [hc]at h1
  rcases h1.1.1 with h2|h2
  ·rw [h2]at hn;cases hn
  ·exact h2
 ·rw [hc]at h1
  rcases h1.1.2 with h2|h2
  ·rw [h2]at hn;cases hn
  ·exact h2
 ·rw [hc]at h1
  rcases h1.2 with h2|h2
  ·rw [h2]at hn;cases hn
  ·exact h2
theorem two_pos {k:K4} {d:Nat} (hk:0<det4 k) (hd:0<d) {t:T2} (h:posB t=true):(twice (ptM k d t.1) (ptM k d t.2.1) (ptM k d t.2.2)).num≠0:=by
 intro e
 have h1:=twice_sgn hk hd t.1 t.2.1 t.2.2
 rw [e]at h1
 have h2:0<cross2 t.1 t.2.1 t.2.2:=of_decide_eq_true h
 have h3:=sgn_zero.1 h1.symm
 omega
structure RimOk (tris sd:List Tri):Prop where
 srt:(sd.map fun t=>((t.1:Int),(t.2.1:Int))).Pairwise ltI
 mem:∀a b:Nat,((a:Int),(b:Int))∈sd.map (fun t=>((t.1:Int),(t.2.1:Int)))↔a<b∧(tris.countP fun t=>has3 t a && has3 t b)=1
theorem rim_eq {N:Nat} {tris sd:List Tri} (hl:∀t∈tris,goodT N t) (h:RimOk tris sd) {es:List Edg} (hp:es.Perm (stE tris tris.length)) (hs:es.Pairwise fun a b=> ¬ordE b a<0):
  sd.map (fun t=>(t.1,t.2.1))=(rimOf (stC tris tris.length) es).map (fun t=>(t.1,t.2.1)):=by
 obtain ⟨h1,h2⟩:=rim_pairs hl hp hs
 have h3:sd.map (fun t=>((t.1:Int),(t.2.1:Int)))=(rimOf (stC tris tris.length) es).map (fun t=>((t.1:Int),(t.2.1:Int))):=by
  refine sorted_ext h.srt h1 fun p=>?_
  constructor
  ·intro hp'
   obtain ⟨s,_,rfl⟩:=List.mem_map.1 hp'
   exact(h2 _ _).2 ((h.mem _ _).1 hp')
  ·intro hp'
   obtain ⟨s,_,rfl⟩:=List.mem_map.1 hp'
   exact(h.mem _ _).2 ((h2 _ _).1 hp')
 have h4:=congrArg (List.map fun p:Int×Int=>(p.1.toNat,p.2.toNat)) h3
 rw [List.map_map,List.map_map]at h4
 exact h4
theorem ms_CheckG {P:List P2} {L:List T2} (h:Net P L) {k:K4} {d:Nat} (hk:0<det4 k) (hs:smallK k) (hd:0<d) (hd':d<4294967296) {sd:List Tri} (hsd:∀s∈sd,s.1<P.length∧s.2.1<P.length∧s.2.2≤255) (hsl:sd.length≤24576) (hr:RimOk (L.map (triOf P)) sd) (vp vt vs:Value) (w:World) (hM:MS w 0 vp vt vs (meshOf k d P L sd)):
  Calls Tryz.prog 15 #[.agg #[vp,vt,vs]] w (Ret w (.int .i64 0)):=by
 have hgt:∀t∈L.map (triOf P),goodT P.length t:=by
  intro t ht
  obtain ⟨u,hu,rfl⟩:=List.mem_map.1 ht
  exact h.goodT hu
 have hlow:∀q,q∈P→hp (ptM k d q)≤4:=fun q hq=>hp_pt hs hd' (h.low q hq)
 have hfew:=h.few
 have hfewP:=h.fewP
 refine msCheck_raw (meshOf k d P L sd) vp vt vs w hM (by simp [meshOf];omega) (by simp [meshOf];omega) (by simpa [meshOf] using hsl)
  (fun W hW=>ms_args _ vp vt vs W hW (h.goodA hk hs hd hd' hsd)) (fun W hW=>ms_onceG _ vp vt vs W hW (h.goodO hk hs hd hd')) (fun W hW=>?_) (fun W hW=>?_)
 ·refine apart_raw (meshOf k d P L sd) vp vt vs (fun j=>ptM k d (L.getD j default).1) (fun j=>ptM k d (L.getD j default).2.1) (fun j=>ptM k d (L.getD j default).2.2) W hW (fun j hj W hW=>?_) (fun i j hji hi W=>?_) (fun i t q p ht hp' hn W=>?_)
  ·have hj':j<L.length:=by simpa [meshOf] using hj
   obtain ⟨h1,h2,h3⟩:=h.at (List.getElem_mem hj')
   have e:L.getD j default=L[j]:=by rw [List.getD_eq_getElem?_getD,List.getElem?_eq_getElem hj'];rfl
   simp only [e]
   have g:=h.goodT (List.getElem_mem hj')
   have gl:(meshOf k d P L sd).pts.length=P.length:=by simp [meshOf]
   have get:∀p,p∈P→∀hlt:P.idxOf p<(meshOf k d P L sd).pts.length,(meshOf k d P L sd).pts[P.idxOf p]=ptM k d p:=fun p hp hlt=>by
    have h9:=map_get (k:=k) (d:=d) hp
    rw [List.getElem?_eq_getElem (by simpa [meshOf] using hlt)]at h9
    exact Option.some.inj h9
   exact ms_corners (meshOf k d P L sd) vp vt vs j (triOf P L[j]) _ _ _ W hW hj (by simp [meshOf]) (by rw [gl];exact g.1) (by rw [gl];exact g.2.1) (by rw [gl];exact g.2.2.1) (get _ h1 _) (get _ h2 _) (get _ h3 _)
  ·have hi':i<L.length:=by simpa [meshOf] using hi
   have hj':j<L.length:=by omega
   have e1:L.getD i default=L[i]:=by rw [List.getD_eq_getElem?_getD,List.getElem?_eq_getElem hi'];rfl
   have e2:L.getD j default=L[j]:=by rw [List.getD_eq_getElem?_getD,List.getElem?_eq_getElem hj'];rfl
   simp only [e1,e2]
   obtain ⟨h1,h2,h3⟩:=h.at (List.getElem_mem hi')
   obtain ⟨h4,h5,h6⟩:=h.at (List.getElem_mem hj')
   have hb:beyB L[i] L[j]=true:=by
    have h7:=h.ok hi' hj' (by omega)
    unfold okB at h7
    simp only [Bool.and_eq_true]at h7
    exact h7.1.1.1
   have hc:=ms_beyondG (ptM k d L[i].1) (ptM k d L[i].2.1) (ptM k d L[i].2.2) (ptM k d L[j].1) (ptM k d L[j].2.1) (ptM k d L[j].2.2) W (Nat.le_trans (hlow _ h1) (by omega)) (Nat.le_trans (hlow _ h2) (by omega)) (Nat.le_trans (hlow _ h3) (by omega)) (by
    intro r hr'
    simp only [List.mem_cons,List.not_mem_nil,or_false]at hr'
    rcases hr' with rfl|rfl|rfl
    ·exact Nat.le_trans (hlow _ h4) (by omega)
    ·exact Nat.le_trans (hlow _ h5) (by omega)
    ·exact Nat.le_trans (hlow _ h6) (by omega))
   rw [bey_pt hk hd hb]at hc
   exact hc
  ·have hi':i<L.length:=by
    have:=(List.getElem?_eq_some_iff.1 ht).1
    simpa [meshOf] using this
   have e1:L.getD i default=L[i]:=by rw [List.getD_eq_getElem?_getD,List.getElem?_eq_getElem hi'];rfl
   simp only [e1]
   have ht':t=triOf P L[i]:=by
    have h9:=tri_at (L:=L) P hi'
    exact Option.some.inj (ht.symm.trans h9)
   subst ht'
   have hq':q<P.length:=by
    have:=(List.getElem?_eq_some_iff.1 hp').1
    simpa [meshOf] using this
   have hpq:p=ptM k d P[q]:=by
    have h9:(P.map (ptM k d))[q]? =some (ptM k d P[q]):=by rw [List.getElem?_map,List.getElem?_eq_getElem hq'];rfl
    exact Option.some.inj (hp'.symm.trans h9)
   subst hpq
   obtain ⟨h1,h2,h3⟩:=h.at (List.getElem_mem hi')
   have hm:=List.getElem_mem hq'
   have hn':hasP L[i] P[q]=false:=by
    rw [←hasT_tri (h.at (List.getElem_mem hi')) hm,h.nd.idxOf_getElem q hq']
    exact hn
   have hc:=ms_Where (ptM k d L[i].1) (ptM k d L[i].2.1) (ptM k d L[i].2.2) (ptM k d P[q]) W (Nat.le_trans (hlow _ h1) (by omega)) (Nat.le_trans (hlow _ h2) (by omega)) (Nat.le_trans (hlow _ h3) (by omega)) (Nat.le_trans (hlow _ hm) (by omega)) (two_pos hk hd (h.pos _ (List.getElem_mem hi')))
   rw [where_out hk hd (h.pos _ (List.getElem_mem hi')) (out_at h hi' hm hn')]at hc
   exact hc
 ·by_cases hex:∃es:List Edg,es.Perm (stE (L.map (triOf P)) (L.map (triOf P)).length)∧es.Pairwise fun a b=> ¬ordE b a<0
  ·obtain ⟨es,hp1,hs1⟩:=hex
   refine rimmed_raw (meshOf k d P L sd) (rimOf (stC (L.map (triOf P)) (L.map (triOf P)).length) es) vp vt vs W hW (fun W hW=>?_) (rim_eq hgt hr hp1 hs1)
   refine(ms_RimG (P.map (ptM k d)) vp vt W (L.map (triOf P)) hW.1 (by simp;omega) hW.2.1 (by simpa using hgt) (by simp;omega) (by simpa using h.one)).mono ?_
   rintro e w' ⟨v,rfl,es',hS,hp2,hs2,hg⟩
   rw [es_unique (stE_nodup _ _) hp2 hs2 hp1 hs1]at hS
   exact⟨v,rfl,hS.mono (Nat.zero_le _),hg⟩
  ·refine rimmed_raw (meshOf k d P L sd) sd vp vt vs W hW (fun W hW=>?_) rfl
   refine(ms_RimG (P.map (ptM k d)) vp vt W (L.map (triOf P)) hW.1 (by simp;omega) hW.2.1 (by simpa using hgt) (by simp;omega) (by simpa using h.one)).mono ?_
   rintro e w' ⟨v,rfl,es',hS,hp2,hs2,hg⟩
   exact absurd ⟨es',hp2,hs2⟩ hex
end Go.Proofs.YtjijceliboaeaaaGreatDoor
