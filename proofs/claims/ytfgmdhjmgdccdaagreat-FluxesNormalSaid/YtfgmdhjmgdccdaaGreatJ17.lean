/-
  Part 17 of the proof: Bary.
-/
import Derived.Test.YtfgmdhjmgdccdaaGreatJ16
import Derived.Test.YtfgmdhjmgdccdaaGreatJ15
set_option linter.unusedSimpArgs false
set_option linter.unusedVariables false
namespace Go.Proofs.YtfgmdhjmgdccdaaGreat
open Go.RowKit Gus
def barP (n0 n1 n2 q0 q1 q2:Int) (m0 m1 m2 d0 d1 d2:Nat):Nat→List Value
 | 0=> [.int .u64 (lowN (sz n0)),.string (bigS (sz n0)),.bool (ng n0),.int .u64 (lowN m0),.string (bigS m0),.int .u64 (lowN (sz n1)),.string (bigS (sz n1)),.bool (ng n1),.int .u64 (lowN m1),.string (bigS m1),.int .u64 (lowN (sz n2)),.string (bigS (sz n2)),.bool (ng n2),.int .u64 (lowN m2),.string (bigS m2)]
 | 1=> [.int .u64 (lowN (sz q0)),.string (bigS (sz q0)),.bool (ng q0),.int .u64 (lowN d0),.string (bigS d0),.int .u64 (lowN (sz n1)),.string (bigS (sz n1)),.bool (ng n1),.int .u64 (lowN m1),.string (bigS m1),.int .u64 (lowN (sz n2)),.string (bigS (sz n2)),.bool (ng n2),.int .u64 (lowN m2),.string (bigS m2)]
 | 2=> [.int .u64 (lowN (sz q0)),.string (bigS (sz q0)),.bool (ng q0),.int .u64 (lowN d0),.string (bigS d0),.int .u64 (lowN (sz q1)),.string (bigS (sz q1)),.bool (ng q1),.int .u64 (lowN d1),.string (bigS d1),.int .u64 (lowN (sz n2)),.string (bigS (sz n2)),.bool (ng n2),.int .u64 (lowN m2),.string (bigS m2)]
 | _=> [.int .u64 (lowN (sz q0)),.string (bigS (sz q0)),.bool (ng q0),.int .u64 (lowN d0),.string (bigS d0),.int .u64 (lowN (sz q1)),.string (bigS (sz q1)),.bool (ng q1),.int .u64 (lowN d1),.string (bigS d1),.int .u64 (lowN (sz q2)),.string (bigS (sz q2)),.bool (ng q2),.int .u64 (lowN d2),.string (bigS d2)]
theorem VB.part {w:World} {g:Nat} {cs:List Value} (o:Nat) (vs:List Value) {ds:List Value} (h:VB w g cs) (hd:ds=cs.take o++vs++cs.drop (o+vs.length)) (ho:o+vs.length≤cs.length):VB (w.setCells g o vs) g ds:=by
 subst hd
 have hlt:(cs.take o).length=o:=by simp;omega
 refine⟨fun j v hv=>?_,fun j hj=>(World.frozen?_setCells g vs o w ⟨g,j,none⟩).trans (h.f j ?_),Nat.lt_of_lt_of_le h.lt (Gr.sets (B:=0) (Nat.zero_le _) vs o (Gr.refl 0 w)).size⟩
 ·rw [List.append_assoc]at hv
  by_cases h1:j<o
  ·rw [World.cell?_setCells_out g vs o w ⟨g,j,none⟩ (fun _ _=> .inl h1)]
   rw [List.getElem?_append_left (by omega),List.getElem?_take_of_lt h1]at hv
   exact h.c j v hv
  ·rw [List.getElem?_append_right (by omega),hlt]at hv
   by_cases h2:j - o<vs.length
   ·rw [List.getElem?_append_left h2]at hv
    have hin:=World.cell?_setCells_in g vs o w (fun i hi=>by
     rw [h.c (o+i) cs[o+i] (List.getElem?_eq_getElem (by omega))];rfl) (j - o) h2
    rw [show o+(j - o)=j by omega]at hin
    rw [hin,←List.getElem?_eq_getElem h2,hv]
   ·rw [List.getElem?_append_right (by omega),List.getElem?_drop]at hv
    rw [World.cell?_setCells_out g vs o w ⟨g,j,none⟩ (fun _ _=> .inr (by simp;omega))]
    exact h.c j v (by rw [←hv];congr 1;omega)
 ·simp at hj;omega
structure BarS (w wx:World) (g:Nat) (cs:List Value):Prop where
 v:VB wx g cs
 gr:Gr w.heap.size w wx
set_option maxRecDepth 20000 in
set_option maxHeartbeats 8000000 in
theorem Bary_raw {a b c p:Pt} {n n0 n1 n2 q0 q1 q2:Int} {m m0 m1 m2 d0 d1 d2:Nat} (hA:(∀w,Calls Tryz.prog 50 #[pV a,pV b,pV c] w (Ret w (frV n m)))) (h0:(∀w,Calls Tryz.prog 50 #[pV p,pV b,pV c] w (Ret w (frV n0 m0)))) (h1:(∀w,Calls Tryz.prog 50 #[pV a,pV p,pV c] w (Ret w (frV n1 m1)))) (h2:(∀w,Calls Tryz.prog 50 #[pV a,pV b,pV p] w (Ret w (frV n2 m2)))) (hd0:(∀w,Calls Tryz.prog 69 #[frV n0 m0,frV n m] w (Ret w (.tuple #[frV q0 d0,.int .i64 0])))) (hd1:(∀w,Calls Tryz.prog 69 #[frV n1 m1,frV n m] w (Ret w (.tuple #[frV q1 d1,.int .i64 0])))) (hd2:(∀w,Calls Tryz.prog 69 #[frV n2 m2,frV n m] w (Ret w (.tuple #[frV q2 d2,.int .i64 0])))) (w:World):
  Calls Tryz.prog 183 #[pV a,pV b,pV c,pV p] w (Ret w (.tuple #[f3V q0 d0 q1 d1 q2 d2,.int .i64 0])):=by
 have hA:=Lib.hid hA
 have h0:=Lib.hid h0
 have h1:=Lib.hid h1
 have h2:=Lib.hid h2
 have hd0:=Lib.hid hd0
 have hd1:=Lib.hid hd1
 have hd2:=Lib.hid hd2
 go_enter Tryz.func183,Tryz.ntmps183
 go_wp2_with fail
 (refine rtt (hA.out _) fun w1 hsz1 hc1 hf1 HG1=>?_;(try simp at hsz1);have hz1_0:w.heap.size<w1.heap.size:=(by omega);have hz1_1:w.heap.size+1<w1.heap.size:=(by omega);have hz1_2:w.heap.size+1+1<w1.heap.size:=(by omega);have hz1_3:w.heap.size+1+1+1<w1.heap.size:=(by omega);have hz1_4:w.heap.size+1+1+1+1<w1.heap.size:=(by omega))
 go_upto_region 2 with fail
 have hp0_1:w.heap.size<w1.heap.size+1:=(by omega)
 have hp0_2:w.heap.size<w1.heap.size+1+1:=(by omega)
 have hp1_1:w.heap.size+1<w1.heap.size+1:=(by omega)
 have hp1_2:w.heap.size+1<w1.heap.size+1+1:=(by omega)
 have hp2_1:w.heap.size+1+1<w1.heap.size+1:=(by omega)
 have hp2_2:w.heap.size+1+1<w1.heap.size+1+1:=(by omega)
 have hp3_1:w.heap.size+1+1+1<w1.heap.size+1:=(by omega)
 have hp3_2:w.heap.size+1+1+1<w1.heap.size+1+1:=(by omega)
 have hp4_1:w.heap.size+1+1+1+1<w1.heap.size+1:=(by omega)
 have hp4_2:w.heap.size+1+1+1+1<w1.heap.size+1+1:=(by omega)
 go_cut [11] (fun v wx=> ∃g,v= .pointer (some ⟨g,0,none⟩)∧w1.heap.size<g∧BarS w wx g (barP n0 n1 n2 q0 q1 q2 m0 m1 m2 d0 d1 d2 0)∧VB wx w1.heap.size [.int .u64 (lowN (sz n)),.string (bigS (sz n)),.bool (ng n),.int .u64 (lowN m),.string (bigS m)]∧VB wx (w.heap.size+1+1+1+1) [.int .u64 0,.string ⟨#[]⟩,.bool false,.int .u64 0,.string ⟨#[]⟩,.int .u64 0,.string ⟨#[]⟩,.bool false,.int .u64 0,.string ⟨#[]⟩,.int .u64 0,.string ⟨#[]⟩,.bool false,.int .u64 0,.string ⟨#[]⟩])
 case first=>
  refine wp_region_held_drew (S:=(fun w'=>w'.cell? ⟨w.heap.size,0,none⟩=some (.int .u64 (lowN (sz a.x.num)))∧w'.cell? ⟨w.heap.size,1,none⟩=some (.string (bigS (sz a.x.num)))∧w'.cell? ⟨w.heap.size,2,none⟩=some (.bool (ng a.x.num))∧w'.cell? ⟨w.heap.size,3,none⟩=some (.int .u64 (lowN (fm a.x)))∧w'.cell? ⟨w.heap.size,4,none⟩=some (.string (bigS (fm a.x)))∧w'.cell? ⟨w.heap.size,5,none⟩=some (.int .u64 (lowN (sz a.y.num)))∧w'.cell? ⟨w.heap.size,6,none⟩=some (.string (bigS (sz a.y.num)))∧w'.cell? ⟨w.heap.size,7,none⟩=some (.bool (ng a.y.num))∧w'.cell? ⟨w.heap.size,8,none⟩=some (.int .u64 (lowN (fm a.y)))∧w'.cell? ⟨w.heap.size,9,none⟩=some (.string (bigS (fm a.y)))∧w'.cell? ⟨w.heap.size+1,0,none⟩=some (.int .u64 (lowN (sz b.x.num)))∧w'.cell? ⟨w.heap.size+1,1,none⟩=some (.string (bigS (sz b.x.num)))∧w'.cell? ⟨w.heap.size+1,2,none⟩=some (.bool (ng b.x.num))∧w'.cell? ⟨w.heap.size+1,3,none⟩=some (.int .u64 (lowN (fm b.x)))∧w'.cell? ⟨w.heap.size+1,4,none⟩=some (.string (bigS (fm b.x)))∧w'.cell? ⟨w.heap.size+1,5,none⟩=some (.int .u64 (lowN (sz b.y.num)))∧w'.cell? ⟨w.heap.size+1,6,none⟩=some (.string (bigS (sz b.y.num)))∧w'.cell? ⟨w.heap.size+1,7,none⟩=some (.bool (ng b.y.num))∧w'.cell? ⟨w.heap.size+1,8,none⟩=some (.int .u64 (lowN (fm b.y)))∧w'.cell? ⟨w.heap.size+1,9,none⟩=some (.string (bigS (fm b.y)))∧w'.cell? ⟨w.heap.size+1+1,0,none⟩=some (.int .u64 (lowN (sz c.x.num)))∧w'.cell? ⟨w.heap.size+1+1,1,none⟩=some (.string (bigS (sz c.x.num)))∧w'.cell? ⟨w.heap.size+1+1,2,none⟩=some (.bool (ng c.x.num))∧w'.cell? ⟨w.heap.size+1+1,3,none⟩=some (.int .u64 (lowN (fm c.x)))∧w'.cell? ⟨w.heap.size+1+1,4,none⟩=some (.string (bigS (fm c.x)))∧w'.cell? ⟨w.heap.size+1+1,5,none⟩=some (.int .u64 (lowN (sz c.y.num)))∧w'.cell? ⟨w.heap.size+1+1,6,none⟩=some (.string (bigS (sz c.y.num)))∧w'.cell? ⟨w.heap.size+1+1,7,none⟩=some (.bool (ng c.y.num))∧w'.cell? ⟨w.heap.size+1+1,8,none⟩=some (.int .u64 (lowN (fm c.y)))∧w'.cell? ⟨w.heap.size+1+1,9,none⟩=some (.string (bigS (fm c.y)))∧w'.cell? ⟨w.heap.size+1+1+1,0,none⟩=some (.int .u64 (lowN (sz p.x.num)))∧w'.cell? ⟨w.heap.size+1+1+1,1,none⟩=some (.string (bigS (sz p.x.num)))∧w'.cell? ⟨w.heap.size+1+1+1,2,none⟩=some (.bool (ng p.x.num))∧w'.cell? ⟨w.heap.size+1+1+1,3,none⟩=some (.int .u64 (lowN (fm p.x)))∧w'.cell? ⟨w.heap.size+1+1+1,4,none⟩=some (.string (bigS (fm p.x)))∧w'.cell? ⟨w.heap.size+1+1+1,5,none⟩=some (.int .u64 (lowN (sz p.y.num)))∧w'.cell? ⟨w.heap.size+1+1+1,6,none⟩=some (.string (bigS (sz p.y.num)))∧w'.cell? ⟨w.heap.size+1+1+1,7,none⟩=some (.bool (ng p.y.num))∧w'.cell? ⟨w.heap.size+1+1+1,8,none⟩=some (.int .u64 (lowN (fm p.y)))∧w'.cell? ⟨w.heap.size+1+1+1,9,none⟩=some (.string (bigS (fm p.y))))) (by kernel_rfl) ?_ (fun hHeld=>?_)
  ·simp [go_sem, *]
  refine tk 0 (some 19) (.agg #[.int .u64 (lowN (sz p.x.num)),.string (bigS (sz p.x.num)),.bool (ng p.x.num),.int .u64 (lowN (fm p.x)),.string (bigS (fm p.x)),.int .u64 (lowN (sz p.y.num)),.string (bigS (sz p.y.num)),.bool (ng p.y.num),.int .u64 (lowN (fm p.y)),.string (bigS (fm p.y))]) ?_
  try simp only [pS]
  refine tk 1 (some 20) (.agg #[.int .u64 (lowN (sz b.x.num)),.string (bigS (sz b.x.num)),.bool (ng b.x.num),.int .u64 (lowN (fm b.x)),.string (bigS (fm b.x)),.int .u64 (lowN (sz b.y.num)),.string (bigS (sz b.y.num)),.bool (ng b.y.num),.int .u64 (lowN (fm b.y)),.string (bigS (fm b.y))]) ?_
  try simp only [pS]
  refine tk 2 (some 21) (.agg #[.int .u64 (lowN (sz c.x.num)),.string (bigS (sz c.x.num)),.bool (ng c.x.num),.int .u64 (lowN (fm c.x)),.string (bigS (fm c.x)),.int .u64 (lowN (sz c.y.num)),.string (bigS (sz c.y.num)),.bool (ng c.y.num),.int .u64 (lowN (fm c.y)),.string (bigS (fm c.y))]) ?_
  try simp only [pS]
  refine tk 4 (some 23) (.agg #[.int .u64 (lowN (sz a.x.num)),.string (bigS (sz a.x.num)),.bool (ng a.x.num),.int .u64 (lowN (fm a.x)),.string (bigS (fm a.x)),.int .u64 (lowN (sz a.y.num)),.string (bigS (sz a.y.num)),.bool (ng a.y.num),.int .u64 (lowN (fm a.y)),.string (bigS (fm a.y))]) ?_
  try simp only [pS]
  refine tk 5 (some 24) (.agg #[.int .u64 (lowN (sz p.x.num)),.string (bigS (sz p.x.num)),.bool (ng p.x.num),.int .u64 (lowN (fm p.x)),.string (bigS (fm p.x)),.int .u64 (lowN (sz p.y.num)),.string (bigS (sz p.y.num)),.bool (ng p.y.num),.int .u64 (lowN (fm p.y)),.string (bigS (fm p.y))]) ?_
  try simp only [pS]
  refine tk 6 (some 25) (.agg #[.int .u64 (lowN (sz c.x.num)),.string (bigS (sz c.x.num)),.bool (ng c.x.num),.int .u64 (lowN (fm c.x)),.string (bigS (fm c.x)),.int .u64 (lowN (sz c.y.num)),.string (bigS (sz c.y.num)),.bool (ng c.y.num),.int .u64 (lowN (fm c.y)),.string (bigS (fm c.y))]) ?_
  try simp only [pS]
  refine tk 8 (some 27) (.agg #[.int .u64 (lowN (sz a.x.num)),.string (bigS (sz a.x.num)),.bool (ng a.x.num),.int .u64 (lowN (fm a.x)),.string (bigS (fm a.x)),.int .u64 (lowN (sz a.y.num)),.string (bigS (sz a.y.num)),.bool (ng a.y.num),.int .u64 (lowN (fm a.y)),.string (bigS (fm a.y))]) ?_
  try simp only [pS]
  refine tk 9 (some 28) (.agg #[.int .u64 (lowN (sz b.x.num)),.string (bigS (sz b.x.num)),.bool (ng b.x.num),.int .u64 (lowN (fm b.x)),.string (bigS (fm b.x)),.int .u64 (lowN (sz b.y.num)),.string (bigS (sz b.y.num)),.bool (ng b.y.num),.int .u64 (lowN (fm b.y)),.string (bigS (fm b.y))]) ?_
  try simp only [pS]
  refine tk 10 (some 29) (.agg #[.int .u64 (lowN (sz p.x.num)),.string (bigS (sz p.x.num)),.bool (ng p.x.num),.int .u64 (lowN (fm p.x)),.string (bigS (fm p.x)),.int .u64 (lowN (sz p.y.num)),.string (bigS (sz p.y.num)),.bool (ng p.y.num),.int .u64 (lowN (fm p.y)),.string (bigS (fm p.y))]) ?_
  try simp only [pS]
  refine wpAnyH_ready (rs:= [3,13]) (by kernel_rfl) (by simp) ?_
  refine AllReadyH.cons rfl (fun K hK=>?_) (AllReadyH.cons rfl (fun K hK=>?_) AllReadyH.nil)
  ·go_simp
   (refine rtt (h0.out _) fun w2 hsz2 hc2 hf2 HG2=>?_;(try simp at hsz2);have hy2_0:w1.heap.size<w2.heap.size:=(by omega);have hz2_0:w.heap.size<w2.heap.size:=(by omega);have hz2_1:w.heap.size+1<w2.heap.size:=(by omega);have hz2_2:w.heap.size+1+1<w2.heap.size:=(by omega);have hz2_3:w.heap.size+1+1+1<w2.heap.size:=(by omega);have hz2_4:w.heap.size+1+1+1+1<w2.heap.size:=(by omega))
   (try dsimp only)
   refine hK.out _ _ ?_ (fun hQ1=>?_)
   ·(first|exact trivial|((try dsimp only);simp [go_sem, *]))
   clear hK K hHeld
   try simp only [pS]
   refine wpAnyH_ready (rs:= [7,13]) (by kernel_rfl) (by simp) ?_
   refine AllReadyH.cons rfl (fun K hK=>?_) (AllReadyH.cons rfl (fun K hK=>?_) AllReadyH.nil)
   ·go_simp
    (refine rtt (h1.out _) fun w3 hsz3 hc3 hf3 HG3=>?_;(try simp at hsz3);have hy3_0:w1.heap.size<w3.heap.size:=(by omega);have hz3_0:w.heap.size<w3.heap.size:=(by omega);have hz3_1:w.heap.size+1<w3.heap.size:=(by omega);have hz3_2:w.heap.size+1+1<w3.heap.size:=(by omega);have hz3_3:w.heap.size+1+1+1<w3.heap.size:=(by omega);have hz3_4:w.heap.size+1+1+1+1<w3.heap.size:=(by omega))
    (try dsimp only)
    refine hK.out _ _ ?_ (fun hQ2=>?_)
    ·(first|exact trivial|((try dsimp only);simp [go_sem, *]))
    clear hK K hQ1
    try simp only [pS]
    refine wpAnyH_ready (rs:= [11,13]) (by kernel_rfl) (by simp) ?_
    refine AllReadyH.cons rfl (fun K hK=>?_) (AllReadyH.cons rfl (fun K hK=>?_) AllReadyH.nil)
    ·go_simp
     (refine rtt (h2.out _) fun w4 hsz4 hc4 hf4 HG4=>?_;(try simp at hsz4);have hy4_0:w1.heap.size<w4.heap.size:=(by omega);have hz4_0:w.heap.size<w4.heap.size:=(by omega);have hz4_1:w.heap.size+1<w4.heap.size:=(by omega);have hz4_2:w.heap.size+1+1<w4.heap.size:=(by omega);have hz4_3:w.heap.size+1+1+1<w4.heap.size:=(by omega);have hz4_4:w.heap.size+1+1+1+1<w4.heap.size:=(by omega))
     (try dsimp only)
     refine hK.out _ _ ?_ (fun hQ3=>?_)
     ·(first|exact trivial|((try dsimp only);simp [go_sem, *]))
     clear hK K hQ2
     try simp only [pS]
     refine tk 12 (some 31) (.agg #[.int .u64 (lowN (sz n0)),.string (bigS (sz n0)),.bool (ng n0),.int .u64 (lowN m0),.string (bigS m0),.int .u64 (lowN (sz n1)),.string (bigS (sz n1)),.bool (ng n1),.int .u64 (lowN m1),.string (bigS m1),.int .u64 (lowN (sz n2)),.string (bigS (sz n2)),.bool (ng n2),.int .u64 (lowN m2),.string (bigS m2)]) ?_
     try simp only [pS]
     refine wpAnyH_ready (rs:= [13]) (by kernel_rfl) (by simp) ?_
     refine AllReadyH.cons rfl (fun K hK=>?_) AllReadyH.nil
     go_simp
     (try dsimp only)
     refine hK.out _ _ ?_ (fun hQ4=>?_)
     ·(first|exact trivial|((try dsimp only);simp [go_sem, *]))
     clear hK K hQ3
     try simp only [pS]
     refine wpAnyH_ready (rs:= [14]) (by kernel_rfl) (by simp) ?_
     refine AllReadyH.cons (o:=⟨none,_,_,_,_,_⟩) rfl (fun K hK=>?_) AllReadyH.nil
     rw [if_pos (by rfl)]
     refine wp_store_mid 261 _ _ rfl (w4.heap.size) 0 (List.toArray [.int .u64 (lowN (sz n0)),.string (bigS (sz n0)),.bool (ng n0),.int .u64 (lowN m0),.string (bigS m0),.int .u64 (lowN (sz n1)),.string (bigS (sz n1)),.bool (ng n1),.int .u64 (lowN m1),.string (bigS m1),.int .u64 (lowN (sz n2)),.string (bigS (sz n2)),.bool (ng n2),.int .u64 (lowN m2),.string (bigS m2)]) rfl rfl (VB.there (cs:= [.int .u64 0,.string ⟨#[]⟩,.bool false,.int .u64 0,.string ⟨#[]⟩,.int .u64 0,.string ⟨#[]⟩,.bool false,.int .u64 0,.string ⟨#[]⟩,.int .u64 0,.string ⟨#[]⟩,.bool false,.int .u64 0,.string ⟨#[]⟩]) ?_) info_F3 (by first|rfl|simp [Value.oneCell']) ?_
     ·(with_reducible (repeat' (first|(refine VB.new' ?_;exact(by first|omega|(simp;done)|(simp;omega)))|apply VB.put2|apply VB.put3|apply VB.put5|refine VB.drew ?_|refine VB.far ?_ ?_ _|refine VB.alloc ?_ _|refine VB.gr ?_ HG4.out ?_|refine VB.gr ?_ HG3.out ?_|refine VB.gr ?_ HG2.out ?_|omega|(simp;done)|(simp;omega))))
     simp only [pS]
     refine hK.out _ _ ?_ (fun hQ5=>?_)
     ·have hh:=hQ4;(try dsimp only at hh ⊢);simp only [cell_sets_ne (show w.heap.size≠w4.heap.size by omega),cell_sets_ne (show w.heap.size+1≠w4.heap.size by omega),cell_sets_ne (show w.heap.size+1+1≠w4.heap.size by omega),cell_sets_ne (show w.heap.size+1+1+1≠w4.heap.size by omega)];exact hh
     clear hK K hQ4
     refine wpAnyH_done (by kernel_rfl) ?_ _
     go_wp2_with fail
     go_meet
     refine⟨_,rfl,by first|omega|(simp;done)|(simp;omega),⟨?_,?_⟩,?_,?_⟩
     ·refine VB.set (cs:= [.int .u64 0,.string ⟨#[]⟩,.bool false,.int .u64 0,.string ⟨#[]⟩,.int .u64 0,.string ⟨#[]⟩,.bool false,.int .u64 0,.string ⟨#[]⟩,.int .u64 0,.string ⟨#[]⟩,.bool false,.int .u64 0,.string ⟨#[]⟩]) ?_ (barP n0 n1 n2 q0 q1 q2 m0 m1 m2 d0 d1 d2 0) rfl
      (with_reducible (repeat' (first|(refine VB.new' ?_;exact(by first|omega|(simp;done)|(simp;omega)))|apply VB.put2|apply VB.put3|apply VB.put5|refine VB.drew ?_|refine VB.far ?_ ?_ _|refine VB.alloc ?_ _|refine VB.gr ?_ HG4.out ?_|refine VB.gr ?_ HG3.out ?_|refine VB.gr ?_ HG2.out ?_|omega|(simp;done)|(simp;omega))))
     ·exact Gr.sets (by omega) _ _ (by exact gcc HG4 (gcc HG3 (gcc HG2 (gcc HG1 gzz))))
     ·refine VB.fars (by omega) _ _ ?_
      exact vbc HG4 (vbc HG3 (vbc HG2 vbb))
     ·refine VB.fars (by omega) _ _ ?_
      exact vbc HG4 (vbc HG3 (vbc HG2 (vbc HG1 vbb)))
    ·go_simp
     (try dsimp only)
     refine hK.out _ _ ?_ (fun hQ3=>?_)
     ·(first|exact trivial|((try dsimp only);simp [go_sem, *]))
     clear hK K hQ2
     try simp only [pS]
     refine wpAnyH_ready (rs:= [11]) (by kernel_rfl) (by simp) ?_
     refine AllReadyH.cons rfl (fun K hK=>?_) AllReadyH.nil
     go_simp
     (refine rtt (h2.out _) fun w4 hsz4 hc4 hf4 HG4=>?_;(try simp at hsz4);have hy4_0:w1.heap.size<w4.heap.size:=(by omega);have hy4_1:w3.heap.size<w4.heap.size:=(by omega);have hz4_0:w.heap.size<w4.heap.size:=(by omega);have hz4_1:w.heap.size+1<w4.heap.size:=(by omega);have hz4_2:w.heap.size+1+1<w4.heap.size:=(by omega);have hz4_3:w.heap.size+1+1+1<w4.heap.size:=(by omega);have hz4_4:w.heap.size+1+1+1+1<w4.heap.size:=(by omega))
     (try dsimp only)
     refine hK.out _ _ ?_ (fun hQ4=>?_)
     ·(first|exact trivial|((try dsimp only);simp [go_sem, *]))
     clear hK K hQ3
     try simp only [pS]
     refine tk 12 (some 31) (.agg #[.int .u64 (lowN (sz n0)),.string (bigS (sz n0)),.bool (ng n0),.int .u64 (lowN m0),.string (bigS m0),.int .u64 (lowN (sz n1)),.string (bigS (sz n1)),.bool (ng n1),.int .u64 (lowN m1),.string (bigS m1),.int .u64 (lowN (sz n2)),.string (bigS (sz n2)),.bool (ng n2),.int .u64 (lowN m2),.string (bigS m2)]) ?_
     try simp only [pS]
     refine wpAnyH_ready (rs:= [14]) (by kernel_rfl) (by simp) ?_
     refine AllReadyH.cons (o:=⟨none,_,_,_,_,_⟩) rfl (fun K hK=>?_) AllReadyH.nil
     rw [if_pos (by rfl)]
     refine wp_store_mid 261 _ _ rfl (w3.heap.size) 0 (List.toArray [.int .u64 (lowN (sz n0)),.string (bigS (sz n0)),.bool (ng n0),.int .u64 (lowN m0),.string (bigS m0),.int .u64 (lowN (sz n1)),.string (bigS (sz n1)),.bool (ng n1),.int .u64 (lowN m1),.string (bigS m1),.int .u64 (lowN (sz n2)),.string (bigS (sz n2)),.bool (ng n2),.int .u64 (lowN m2),.string (bigS m2)]) rfl rfl (VB.there (cs:= [.int .u64 0,.string ⟨#[]⟩,.bool false,.int .u64 0,.string ⟨#[]⟩,.int .u64 0,.string ⟨#[]⟩,.bool false,.int .u64 0,.string ⟨#[]⟩,.int .u64 0,.string ⟨#[]⟩,.bool false,.int .u64 0,.string ⟨#[]⟩]) ?_) info_F3 (by first|rfl|simp [Value.oneCell']) ?_
     ·(with_reducible (repeat' (first|(refine VB.new' ?_;exact(by first|omega|(simp;done)|(simp;omega)))|apply VB.put2|apply VB.put3|apply VB.put5|refine VB.drew ?_|refine VB.far ?_ ?_ _|refine VB.alloc ?_ _|refine VB.gr ?_ HG4.out ?_|refine VB.gr ?_ HG3.out ?_|refine VB.gr ?_ HG2.out ?_|omega|(simp;done)|(simp;omega))))
     simp only [pS]
     refine hK.out _ _ ?_ (fun hQ5=>?_)
     ·have hh:=hQ4;(try dsimp only at hh ⊢);simp only [cell_sets_ne (show w.heap.size≠w3.heap.size by omega),cell_sets_ne (show w.heap.size+1≠w3.heap.size by omega),cell_sets_ne (show w.heap.size+1+1≠w3.heap.size by omega),cell_sets_ne (show w.heap.size+1+1+1≠w3.heap.size by omega)];exact hh
     clear hK K hQ4
     refine wpAnyH_done (by kernel_rfl) ?_ _
     go_wp2_with fail
     go_meet
     refine⟨_,rfl,by first|omega|(simp;done)|(simp;omega),⟨?_,?_⟩,?_,?_⟩
     ·refine VB.set (cs:= [.int .u64 0,.string ⟨#[]⟩,.bool false,.int .u64 0,.string ⟨#[]⟩,.int .u64 0,.string ⟨#[]⟩,.bool false,.int .u64 0,.string ⟨#[]⟩,.int .u64 0,.string ⟨#[]⟩,.bool false,.int .u64 0,.string ⟨#[]⟩]) ?_ (barP n0 n1 n2 q0 q1 q2 m0 m1 m2 d0 d1 d2 0) rfl
      (with_reducible (repeat' (first|(refine VB.new' ?_;exact(by first|omega|(simp;done)|(simp;omega)))|apply VB.put2|apply VB.put3|apply VB.put5|refine VB.drew ?_|refine VB.far ?_ ?_ _|refine VB.alloc ?_ _|refine VB.gr ?_ HG4.out ?_|refine VB.gr ?_ HG3.out ?_|refine VB.gr ?_ HG2.out ?_|omega|(simp;done)|(simp;omega))))
     ·exact Gr.sets (by omega) _ _ (by exact gcc HG4 (gcc HG3 (gcc HG2 (gcc HG1 gzz))))
     ·refine VB.fars (by omega) _ _ ?_
      exact vbc HG4 (vbc HG3 (vbc HG2 vbb))
     ·refine VB.fars (by omega) _ _ ?_
      exact vbc HG4 (vbc HG3 (vbc HG2 (vbc HG1 vbb)))
   ·go_simp
    (try dsimp only)
    refine hK.out _ _ ?_ (fun hQ2=>?_)
    ·(first|exact trivial|((try dsimp only);simp [go_sem, *]))
    clear hK K hQ1
    try simp only [pS]
    refine wpAnyH_ready (rs:= [7]) (by kernel_rfl) (by simp) ?_
    refine AllReadyH.cons rfl (fun K hK=>?_) AllReadyH.nil
    go_simp
    (refine rtt (h1.out _) fun w3 hsz3 hc3 hf3 HG3=>?_;(try simp at hsz3);have hy3_0:w1.heap.size<w3.heap.size:=(by omega);have hy3_1:w2.heap.size<w3.heap.size:=(by omega);have hz3_0:w.heap.size<w3.heap.size:=(by omega);have hz3_1:w.heap.size+1<w3.heap.size:=(by omega);have hz3_2:w.heap.size+1+1<w3.heap.size:=(by omega);have hz3_3:w.heap.size+1+1+1<w3.heap.size:=(by omega);have hz3_4:w.heap.size+1+1+1+1<w3.heap.size:=(by omega))
    (try dsimp only)
    refine hK.out _ _ ?_ (fun hQ3=>?_)
    ·(first|exact trivial|((try dsimp only);simp [go_sem, *]))
    clear hK K hQ2
    try simp only [pS]
    refine wpAnyH_ready (rs:= [11]) (by kernel_rfl) (by simp) ?_
    refine AllReadyH.cons rfl (fun K hK=>?_) AllReadyH.nil
    go_simp
    (refine rtt (h2.out _) fun w4 hsz4 hc4 hf4 HG4=>?_;(try simp at hsz4);have hy4_0:w1.heap.size<w4.heap.size:=(by omega);have hy4_1:w2.heap.size<w4.heap.size:=(by omega);have hz4_0:w.heap.size<w4.heap.size:=(by omega);have hz4_1:w.heap.size+1<w4.heap.size:=(by omega);have hz4_2:w.heap.size+1+1<w4.heap.size:=(by omega);have hz4_3:w.heap.size+1+1+1<w4.heap.size:=(by omega);have hz4_4:w.heap.size+1+1+1+1<w4.heap.size:=(by omega))
    (try dsimp only)
    refine hK.out _ _ ?_ (fun hQ4=>?_)
    ·(first|exact trivial|((try dsimp only);simp [go_sem, *]))
    clear hK K hQ3
    try simp only [pS]
    refine tk 12 (some 31) (.agg #[.int .u64 (lowN (sz n0)),.string (bigS (sz n0)),.bool (ng n0),.int .u64 (lowN m0),.string (bigS m0),.int .u64 (lowN (sz n1)),.string (bigS (sz n1)),.bool (ng n1),.int .u64 (lowN m1),.string (bigS m1),.int .u64 (lowN (sz n2)),.string (bigS (sz n2)),.bool (ng n2),.int .u64 (lowN m2),.string (bigS m2)]) ?_
    try simp only [pS]
    refine wpAnyH_ready (rs:= [14]) (by kernel_rfl) (by simp) ?_
    refine AllReadyH.cons (o:=⟨none,_,_,_,_,_⟩) rfl (fun K hK=>?_) AllReadyH.nil
    rw [if_pos (by rfl)]
    refine wp_store_mid 261 _ _ rfl (w2.heap.size) 0 (List.toArray [.int .u64 (lowN (sz n0)),.string (bigS (sz n0)),.bool (ng n0),.int .u64 (lowN m0),.string (bigS m0),.int .u64 (lowN (sz n1)),.string (bigS (sz n1)),.bool (ng n1),.int .u64 (lowN m1),.string (bigS m1),.int .u64 (lowN (sz n2)),.string (bigS (sz n2)),.bool (ng n2),.int .u64 (lowN m2),.string (bigS m2)]) rfl rfl (VB.there (cs:= [.int .u64 0,.string ⟨#[]⟩,.bool false,.int .u64 0,.string ⟨#[]⟩,.int .u64 0,.string ⟨#[]⟩,.bool false,.int .u64 0,.string ⟨#[]⟩,.int .u64 0,.string ⟨#[]⟩,.bool false,.int .u64 0,.string ⟨#[]⟩]) ?_) info_F3 (by first|rfl|simp [Value.oneCell']) ?_
    ·(with_reducible (repeat' (first|(refine VB.new' ?_;exact(by first|omega|(simp;done)|(simp;omega)))|apply VB.put2|apply VB.put3|apply VB.put5|refine VB.drew ?_|refine VB.far ?_ ?_ _|refine VB.alloc ?_ _|refine VB.gr ?_ HG4.out ?_|refine VB.gr ?_ HG3.out ?_|refine VB.gr ?_ HG2.out ?_|omega|(simp;done)|(simp;omega))))
    simp only [pS]
    refine hK.out _ _ ?_ (fun hQ5=>?_)
    ·have hh:=hQ4;(try dsimp only at hh ⊢);simp only [cell_sets_ne (show w.heap.size≠w2.heap.size by omega),cell_sets_ne (show w.heap.size+1≠w2.heap.size by omega),cell_sets_ne (show w.heap.size+1+1≠w2.heap.size by omega),cell_sets_ne (show w.heap.size+1+1+1≠w2.heap.size by omega)];exact hh
    clear hK K hQ4
    refine wpAnyH_done (by kernel_rfl) ?_ _
    go_wp2_with fail
    go_meet
    refine⟨_,rfl,by first|omega|(simp;done)|(simp;omega),⟨?_,?_⟩,?_,?_⟩
    ·refine VB.set (cs:= [.int .u64 0,.string ⟨#[]⟩,.bool false,.int .u64 0,.string ⟨#[]⟩,.int .u64 0,.string ⟨#[]⟩,.bool false,.int .u64 0,.string ⟨#[]⟩,.int .u64 0,.string ⟨#[]⟩,.bool false,.int .u64 0,.string ⟨#[]⟩]) ?_ (barP n0 n1 n2 q0 q1 q2 m0 m1 m2 d0 d1 d2 0) rfl
     (with_reducible (repeat' (first|(refine VB.new' ?_;exact(by first|omega|(simp;done)|(simp;omega)))|apply VB.put2|apply VB.put3|apply VB.put5|refine VB.drew ?_|refine VB.far ?_ ?_ _|refine VB.alloc ?_ _|refine VB.gr ?_ HG4.out ?_|refine VB.gr ?_ HG3.out ?_|refine VB.gr ?_ HG2.out ?_|omega|(simp;done)|(simp;omega))))
    ·exact Gr.sets (by omega) _ _ (by exact gcc HG4 (gcc HG3 (gcc HG2 (gcc HG1 gzz))))
    ·refine VB.fars (by omega) _ _ ?_
     exact vbc HG4 (vbc HG3 (vbc HG2 vbb))
    ·refine VB.fars (by omega) _ _ ?_
     exact vbc HG4 (vbc HG3 (vbc HG2 (vbc HG1 vbb)))
  ·go_simp
   (try dsimp only)
   refine hK.out _ _ ?_ (fun hQ1=>?_)
   ·(first|exact trivial|((try dsimp only);simp [go_sem, *]))
   clear hK K hHeld
   try simp only [pS]
   refine wpAnyH_ready (rs:= [3]) (by kernel_rfl) (by simp) ?_
   refine AllReadyH.cons rfl (fun K hK=>?_) AllReadyH.nil
   go_simp
   (refine rtt (h0.out _) fun w2 hsz2 hc2 hf2 HG2=>?_;(try simp at hsz2);have hy2_0:w1.heap.size<w2.heap.size:=(by omega);have hy2_1:w1.heap.size+1<w2.heap.size:=(by omega);have hz2_0:w.heap.size<w2.heap.size:=(by omega);have hz2_1:w.heap.size+1<w2.heap.size:=(by omega);have hz2_2:w.heap.size+1+1<w2.heap.size:=(by omega);have hz2_3:w.heap.size+1+1+1<w2.heap.size:=(by omega);have hz2_4:w.heap.size+1+1+1+1<w2.heap.size:=(by omega))
   (try dsimp only)
   refine hK.out _ _ ?_ (fun hQ2=>?_)
   ·(first|exact trivial|((try dsimp only);simp [go_sem, *]))
   clear hK K hQ1
   try simp only [pS]
   refine wpAnyH_ready (rs:= [7]) (by kernel_rfl) (by simp) ?_
   refine AllReadyH.cons rfl (fun K hK=>?_) AllReadyH.nil
   go_simp
   (refine rtt (h1.out _) fun w3 hsz3 hc3 hf3 HG3=>?_;(try simp at hsz3);have hy3_0:w1.heap.size<w3.heap.size:=(by omega);have hy3_1:w1.heap.size+1<w3.heap.size:=(by omega);have hz3_0:w.heap.size<w3.heap.size:=(by omega);have hz3_1:w.heap.size+1<w3.heap.size:=(by omega);have hz3_2:w.heap.size+1+1<w3.heap.size:=(by omega);have hz3_3:w.heap.size+1+1+1<w3.heap.size:=(by omega);have hz3_4:w.heap.size+1+1+1+1<w3.heap.size:=(by omega))
   (try dsimp only)
   refine hK.out _ _ ?_ (fun hQ3=>?_)
   ·(first|exact trivial|((try dsimp only);simp [go_sem, *]))
   clear hK K hQ2
   try simp only [pS]
   refine wpAnyH_ready (rs:= [11]) (by kernel_rfl) (by simp) ?_
   refine AllReadyH.cons rfl (fun K hK=>?_) AllReadyH.nil
   go_simp
   (refine rtt (h2.out _) fun w4 hsz4 hc4 hf4 HG4=>?_;(try simp at hsz4);have hy4_0:w1.heap.size<w4.heap.size:=(by omega);have hy4_1:w1.heap.size+1<w4.heap.size:=(by omega);have hz4_0:w.heap.size<w4.heap.size:=(by omega);have hz4_1:w.heap.size+1<w4.heap.size:=(by omega);have hz4_2:w.heap.size+1+1<w4.heap.size:=(by omega);have hz4_3:w.heap.size+1+1+1<w4.heap.size:=(by omega);have hz4_4:w.heap.size+1+1+1+1<w4.heap.size:=(by omega))
   (try dsimp only)
   refine hK.out _ _ ?_ (fun hQ4=>?_)
   ·(first|exact trivial|((try dsimp only);simp [go_sem, *]))
   clear hK K hQ3
   try simp only [pS]
   refine tk 12 (some 31) (.agg #[.int .u64 (lowN (sz n0)),.string (bigS (sz n0)),.bool (ng n0),.int .u64 (lowN m0),.string (bigS m0),.int .u64 (lowN (sz n1)),.string (bigS (sz n1)),.bool (ng n1),.int .u64 (lowN m1),.string (bigS m1),.int .u64 (lowN (sz n2)),.string (bigS (sz n2)),.bool (ng n2),.int .u64 (lowN m2),.string (bigS m2)]) ?_
   try simp only [pS]
   refine wpAnyH_ready (rs:= [14]) (by kernel_rfl) (by simp) ?_
   refine AllReadyH.cons (o:=⟨none,_,_,_,_,_⟩) rfl (fun K hK=>?_) AllReadyH.nil
   rw [if_pos (by rfl)]
   refine wp_store_mid 261 _ _ rfl (w1.heap.size+1) 0 (List.toArray [.int .u64 (lowN (sz n0)),.string (bigS (sz n0)),.bool (ng n0),.int .u64 (lowN m0),.string (bigS m0),.int .u64 (lowN (sz n1)),.string (bigS (sz n1)),.bool (ng n1),.int .u64 (lowN m1),.string (bigS m1),.int .u64 (lowN (sz n2)),.string (bigS (sz n2)),.bool (ng n2),.int .u64 (lowN m2),.string (bigS m2)]) rfl rfl (VB.there (cs:= [.int .u64 0,.string ⟨#[]⟩,.bool false,.int .u64 0,.string ⟨#[]⟩,.int .u64 0,.string ⟨#[]⟩,.bool false,.int .u64 0,.string ⟨#[]⟩,.int .u64 0,.string ⟨#[]⟩,.bool false,.int .u64 0,.string ⟨#[]⟩]) ?_) info_F3 (by first|rfl|simp [Value.oneCell']) ?_
   ·exact vbc HG4 (vbc HG3 (vbc HG2 vbb))
   simp only [pS]
   refine hK.out _ _ ?_ (fun hQ5=>?_)
   ·have hh:=hQ4;(try dsimp only at hh ⊢);simp only [cell_sets_ne (show w.heap.size≠w1.heap.size+1 by omega),cell_sets_ne (show w.heap.size+1≠w1.heap.size+1 by omega),cell_sets_ne (show w.heap.size+1+1≠w1.heap.size+1 by omega),cell_sets_ne (show w.heap.size+1+1+1≠w1.heap.size+1 by omega)];exact hh
   clear hK K hQ4
   refine wpAnyH_done (by kernel_rfl) ?_ _
   go_wp2_with fail
   go_meet
   refine⟨_,rfl,by first|omega|(simp;done)|(simp;omega),⟨?_,?_⟩,?_,?_⟩
   ·refine VB.set (cs:= [.int .u64 0,.string ⟨#[]⟩,.bool false,.int .u64 0,.string ⟨#[]⟩,.int .u64 0,.string ⟨#[]⟩,.bool false,.int .u64 0,.string ⟨#[]⟩,.int .u64 0,.string ⟨#[]⟩,.bool false,.int .u64 0,.string ⟨#[]⟩]) ?_ (barP n0 n1 n2 q0 q1 q2 m0 m1 m2 d0 d1 d2 0) rfl
    exact vbc HG4 (vbc HG3 (vbc HG2 vbb))
   ·exact Gr.sets (by omega) _ _ (by exact gcc HG4 (gcc HG3 (gcc HG2 (gcc HG1 gzz))))
   ·refine VB.fars (by omega) _ _ ?_
    exact vbc HG4 (vbc HG3 (vbc HG2 vbb))
   ·refine VB.fars (by omega) _ _ ?_
    exact vbc HG4 (vbc HG3 (vbc HG2 (vbc HG1 vbb)))
 case rest=>
  obtain ⟨pb,rfl,hlt,hB,hT,hZ⟩:=hcut
  have HGB:=Lib.hid hB.gr
  have HVB:=Lib.hid hB.v
  have HVT:=Lib.hid hT
  have HVZ:=Lib.hid hZ
  clear hB hT hZ hc1 hf1 HG1
  generalize w1.heap.size=tb at *
  go_wp2_with fail
  go_loopw [32] (fun s wr=> ∃k:Nat,k≤3∧s= .int .i64 k∧Hid (VB wr pb (barP n0 n1 n2 q0 q1 q2 m0 m1 m2 d0 d1 d2 k))∧Hid (VB wr tb [.int .u64 (lowN (sz n)),.string (bigS (sz n)),.bool (ng n),.int .u64 (lowN m),.string (bigS m)])∧Hid (VB wr (w.heap.size+1+1+1+1) [.int .u64 0,.string ⟨#[]⟩,.bool false,.int .u64 0,.string ⟨#[]⟩,.int .u64 0,.string ⟨#[]⟩,.bool false,.int .u64 0,.string ⟨#[]⟩,.int .u64 0,.string ⟨#[]⟩,.bool false,.int .u64 0,.string ⟨#[]⟩])∧Hid (Gr w.heap.size w wr)) (fun s _=>3 - (intOf s).toNat)
  case atStart=>exact⟨0,by omega,rfl,HVB,HVT,HVZ,HGB⟩
  case round=>
   clear HVB HVT HVZ HGB
   obtain ⟨k,hk,rfl,HVB,HVT,HVZ,HGB⟩:=hrel
   have hwk:∀j:Nat,j<3→IntKind.i64.wrap ((j:Int)+1)=(j:Int)+1:=fun j hj=>by rw [IntKind.wrap_i64];omega
   have hszr:=HGB.out.size
   have g0:=HVB.out.lt
   have g1:=HVT.out.lt
   have g2:=HVZ.out.lt
   have e0:¬pb=tb:=by omega
   have e1:¬pb=w.heap.size+1+1+1+1:=by omega
   have e2:¬tb=pb:=by omega
   have e3:¬w.heap.size+1+1+1+1=pb:=by omega
   obtain ⟨t0,t1,t2,t3,t4,_,_,_,_,_⟩:=HVT.out.five
   rcases(show k=0∨k=1∨k=2∨k=3 by omega)with rfl|rfl|rfl|rfl
   ·simp only [show((0:Nat):Int)=0 from rfl]
    have p0:=(show VB wr pb [.int .u64 (lowN (sz n0)),.string (bigS (sz n0)),.bool (ng n0),.int .u64 (lowN m0),.string (bigS m0),.int .u64 (lowN (sz n1)),.string (bigS (sz n1)),.bool (ng n1),.int .u64 (lowN m1),.string (bigS m1),.int .u64 (lowN (sz n2)),.string (bigS (sz n2)),.bool (ng n2),.int .u64 (lowN m2),.string (bigS m2)]from HVB.out).c 0 _ rfl
    have p1:=(show VB wr pb [.int .u64 (lowN (sz n0)),.string (bigS (sz n0)),.bool (ng n0),.int .u64 (lowN m0),.string (bigS m0),.int .u64 (lowN (sz n1)),.string (bigS (sz n1)),.bool (ng n1),.int .u64 (lowN m1),.string (bigS m1),.int .u64 (lowN (sz n2)),.string (bigS (sz n2)),.bool (ng n2),.int .u64 (lowN m2),.string (bigS m2)]from HVB.out).c 1 _ rfl
    have p2:=(show VB wr pb [.int .u64 (lowN (sz n0)),.string (bigS (sz n0)),.bool (ng n0),.int .u64 (lowN m0),.string (bigS m0),.int .u64 (lowN (sz n1)),.string (bigS (sz n1)),.bool (ng n1),.int .u64 (lowN m1),.string (bigS m1),.int .u64 (lowN (sz n2)),.string (bigS (sz n2)),.bool (ng n2),.int .u64 (lowN m2),.string (bigS m2)]from HVB.out).c 2 _ rfl
    have p3:=(show VB wr pb [.int .u64 (lowN (sz n0)),.string (bigS (sz n0)),.bool (ng n0),.int .u64 (lowN m0),.string (bigS m0),.int .u64 (lowN (sz n1)),.string (bigS (sz n1)),.bool (ng n1),.int .u64 (lowN m1),.string (bigS m1),.int .u64 (lowN (sz n2)),.string (bigS (sz n2)),.bool (ng n2),.int .u64 (lowN m2),.string (bigS m2)]from HVB.out).c 3 _ rfl
    have p4:=(show VB wr pb [.int .u64 (lowN (sz n0)),.string (bigS (sz n0)),.bool (ng n0),.int .u64 (lowN m0),.string (bigS m0),.int .u64 (lowN (sz n1)),.string (bigS (sz n1)),.bool (ng n1),.int .u64 (lowN m1),.string (bigS m1),.int .u64 (lowN (sz n2)),.string (bigS (sz n2)),.bool (ng n2),.int .u64 (lowN m2),.string (bigS m2)]from HVB.out).c 4 _ rfl
    have hw1:=hwk 0 (by omega)
    simp only [show((0:Nat):Int)=0 from rfl,Int.reduceAdd]at hw1
    go_upto_region 6 with fail
    go_cut [13,14] (fun v u wx=> ∃g,v= .pointer (some ⟨g,0,none⟩)∧u= .int .i64 0∧wr.heap.size≤g∧BarS wr wx g [.int .u64 (lowN (sz q0)),.string (bigS (sz q0)),.bool (ng q0),.int .u64 (lowN d0),.string (bigS d0)])
    case first=>
     refine wp_region_held_drew (S:=(fun w'=>w'.cell? ⟨pb,0,none⟩=some (.int .u64 (lowN (sz n0)))∧w'.cell? ⟨pb,1,none⟩=some (.string (bigS (sz n0)))∧w'.cell? ⟨pb,2,none⟩=some (.bool (ng n0))∧w'.cell? ⟨pb,3,none⟩=some (.int .u64 (lowN m0))∧w'.cell? ⟨pb,4,none⟩=some (.string (bigS m0))∧w'.cell? ⟨tb,0,none⟩=some (.int .u64 (lowN (sz n)))∧w'.cell? ⟨tb,1,none⟩=some (.string (bigS (sz n)))∧w'.cell? ⟨tb,2,none⟩=some (.bool (ng n))∧w'.cell? ⟨tb,3,none⟩=some (.int .u64 (lowN m))∧w'.cell? ⟨tb,4,none⟩=some (.string (bigS m)))) (by kernel_rfl) ?_ (fun hHeld=>?_)
     ·simp [go_sem, *]
     refine tk 0 (some 36) (.int .i64 0) ?_
     try simp only [pS]
     refine tk 1 (some 37) (.pointer (some ⟨pb,0,none⟩)) ?_
     try simp only [pS]
     refine tk 2 (some 38) (.agg #[.int .u64 (lowN (sz n0)),.string (bigS (sz n0)),.bool (ng n0),.int .u64 (lowN m0),.string (bigS m0)]) ?_
     try simp only [pS]
     refine tk 3 (some 39) (.agg #[.int .u64 (lowN (sz n)),.string (bigS (sz n)),.bool (ng n),.int .u64 (lowN m),.string (bigS m)]) ?_
     try simp only [pS]
     refine wpAnyH_ready (rs:= [4,8]) (by kernel_rfl) (by simp) ?_
     refine AllReadyH.cons rfl (fun K hK=>?_) (AllReadyH.cons rfl (fun K hK=>?_) AllReadyH.nil)
     ·go_simp
      (refine rtt (hd0.out _) fun w2 hsz2 hc2 hf2 HG2=>?_;(try simp at hsz2);have hy2_0:pb<w2.heap.size:=(by omega);have hy2_1:tb<w2.heap.size:=(by omega))
      (try dsimp only)
      refine hK.out _ _ ?_ (fun hQ1=>?_)
      ·(first|exact trivial|((try dsimp only);simp [go_sem, *]))
      clear hK K hHeld
      try simp only [pS]
      refine tk 5 (some 35) (.tuple #[.agg #[.int .u64 (lowN (sz q0)),.string (bigS (sz q0)),.bool (ng q0),.int .u64 (lowN d0),.string (bigS d0)],.int .i64 0]) ?_
      try simp only [pS]
      refine tk 6 (some 41) (.agg #[.int .u64 (lowN (sz q0)),.string (bigS (sz q0)),.bool (ng q0),.int .u64 (lowN d0),.string (bigS d0)]) ?_
      try simp only [pS]
      refine tk 7 (some 42) (.int .i64 0) ?_
      try simp only [pS]
      refine rd 8 (fun K hK=>?_)
      go_simp
      (try dsimp only)
      refine hK.out _ _ ?_ (fun hQ2=>?_)
      ·(first|exact trivial|((try dsimp only);simp [go_sem, *]))
      clear hK K hQ1
      try simp only [pS]
      have f0:¬pb=w2.heap.size:=by omega
      have f1:¬tb=w2.heap.size:=by omega
      refine rd 9 (fun K hK=>?_)
      go_simp
      (try dsimp only)
      refine hK.out _ _ ?_ (fun hQ3=>?_)
      ·(first|exact trivial|((try dsimp only);simp [go_sem, *]))
      clear hK K hQ2
      try simp only [pS]
      refine tk 10 (some 14) (.int .i64 0) ?_
      try simp only [pS]
      refine wpAnyH_done (by kernel_rfl) ?_ _
      go_wp2_with fail
      go_meet
      refine⟨w2.heap.size,rfl,rfl,by first|omega|(simp;done)|(simp;omega),⟨?_,?_⟩⟩
      ·(with_reducible (repeat' (first|(refine VB.new' ?_;exact(by first|omega|(simp;done)|(simp;omega)))|apply VB.put2|apply VB.put3|apply VB.put5|refine VB.drew ?_|refine VB.far ?_ ?_ _|refine VB.alloc ?_ _|refine VB.gr ?_ HG2.out ?_|omega|(simp;done)|(simp;omega))))
      ·exact gcc HG2 gzz
     ·go_simp
      (try dsimp only)
      refine hK.out _ _ ?_ (fun hQ1=>?_)
      ·(first|exact trivial|((try dsimp only);simp [go_sem, *]))
      clear hK K hHeld
      try simp only [pS]
      have k0:pb<wr.heap.size+1:=by omega
      have k1:tb<wr.heap.size+1:=by omega
      refine wpAnyH_ready (rs:= [4]) (by kernel_rfl) (by simp) ?_
      refine AllReadyH.cons rfl (fun K hK=>?_) AllReadyH.nil
      go_simp
      (refine rtt (hd0.out _) fun w2 hsz2 hc2 hf2 HG2=>?_;(try simp at hsz2);have hy2_0:pb<w2.heap.size:=(by omega);have hy2_1:tb<w2.heap.size:=(by omega);have hy2_2:wr.heap.size<w2.heap.size:=(by omega))
      (try dsimp only)
      refine hK.out _ _ ?_ (fun hQ2=>?_)
      ·(first|exact trivial|((try dsimp only);simp [go_sem, *]))
      clear hK K hQ1
      try simp only [pS]
      refine tk 5 (some 35) (.tuple #[.agg #[.int .u64 (lowN (sz q0)),.string (bigS (sz q0)),.bool (ng q0),.int .u64 (lowN d0),.string (bigS d0)],.int .i64 0]) ?_
      try simp only [pS]
      refine tk 6 (some 41) (.agg #[.int .u64 (lowN (sz q0)),.string (bigS (sz q0)),.bool (ng q0),.int .u64 (lowN d0),.string (bigS d0)]) ?_
      try simp only [pS]
      refine tk 7 (some 42) (.int .i64 0) ?_
      try simp only [pS]
      have f0:¬pb=wr.heap.size:=by omega
      have f1:¬tb=wr.heap.size:=by omega
      refine rd 9 (fun K hK=>?_)
      go_simp
      (try dsimp only)
      refine hK.out _ _ ?_ (fun hQ3=>?_)
      ·(first|exact trivial|((try dsimp only);simp [go_sem, *]))
      clear hK K hQ2
      try simp only [pS]
      refine tk 10 (some 14) (.int .i64 0) ?_
      try simp only [pS]
      refine wpAnyH_done (by kernel_rfl) ?_ _
      go_wp2_with fail
      go_meet
      refine⟨wr.heap.size,rfl,rfl,by first|omega|(simp;done)|(simp;omega),⟨?_,?_⟩⟩
      ·(with_reducible (repeat' (first|(refine VB.new' ?_;exact(by first|omega|(simp;done)|(simp;omega)))|apply VB.put2|apply VB.put3|apply VB.put5|refine VB.drew ?_|refine VB.far ?_ ?_ _|refine VB.alloc ?_ _|refine VB.gr ?_ HG2.out ?_|omega|(simp;done)|(simp;omega))))
      ·exact gcc HG2 gzz
    case rest=>
     obtain ⟨g,rfl,rfl,hgl,hB⟩:=hcut
     obtain ⟨s0,s1,s2,s3,s4,_,_,_,_,_⟩:=hB.v.five
     have HGX:=Lib.hid hB.gr
     have hszx:=hB.gr.size
     have hvx:=hB.v.lt
     have HP:=Lib.hid (HVB.out.gr hB.gr g0)
     have HT:=Lib.hid (HVT.out.gr hB.gr g1)
     have HZ:=Lib.hid (HVZ.out.gr hB.gr g2)
     have HX:=Lib.hid hB.v
     clear hB
     have x0:=(show VB _ pb [.int .u64 (lowN (sz n0)),.string (bigS (sz n0)),.bool (ng n0),.int .u64 (lowN m0),.string (bigS m0),.int .u64 (lowN (sz n1)),.string (bigS (sz n1)),.bool (ng n1),.int .u64 (lowN m1),.string (bigS m1),.int .u64 (lowN (sz n2)),.string (bigS (sz n2)),.bool (ng n2),.int .u64 (lowN m2),.string (bigS m2)]from HP.out).c 0 _ rfl
     have y0:=(show VB _ pb [.int .u64 (lowN (sz n0)),.string (bigS (sz n0)),.bool (ng n0),.int .u64 (lowN m0),.string (bigS m0),.int .u64 (lowN (sz n1)),.string (bigS (sz n1)),.bool (ng n1),.int .u64 (lowN m1),.string (bigS m1),.int .u64 (lowN (sz n2)),.string (bigS (sz n2)),.bool (ng n2),.int .u64 (lowN m2),.string (bigS m2)]from HP.out).f 0 (by simp)
     have x1:=(show VB _ pb [.int .u64 (lowN (sz n0)),.string (bigS (sz n0)),.bool (ng n0),.int .u64 (lowN m0),.string (bigS m0),.int .u64 (lowN (sz n1)),.string (bigS (sz n1)),.bool (ng n1),.int .u64 (lowN m1),.string (bigS m1),.int .u64 (lowN (sz n2)),.string (bigS (sz n2)),.bool (ng n2),.int .u64 (lowN m2),.string (bigS m2)]from HP.out).c 1 _ rfl
     have y1:=(show VB _ pb [.int .u64 (lowN (sz n0)),.string (bigS (sz n0)),.bool (ng n0),.int .u64 (lowN m0),.string (bigS m0),.int .u64 (lowN (sz n1)),.string (bigS (sz n1)),.bool (ng n1),.int .u64 (lowN m1),.string (bigS m1),.int .u64 (lowN (sz n2)),.string (bigS (sz n2)),.bool (ng n2),.int .u64 (lowN m2),.string (bigS m2)]from HP.out).f 1 (by simp)
     have x2:=(show VB _ pb [.int .u64 (lowN (sz n0)),.string (bigS (sz n0)),.bool (ng n0),.int .u64 (lowN m0),.string (bigS m0),.int .u64 (lowN (sz n1)),.string (bigS (sz n1)),.bool (ng n1),.int .u64 (lowN m1),.string (bigS m1),.int .u64 (lowN (sz n2)),.string (bigS (sz n2)),.bool (ng n2),.int .u64 (lowN m2),.string (bigS m2)]from HP.out).c 2 _ rfl
     have y2:=(show VB _ pb [.int .u64 (lowN (sz n0)),.string (bigS (sz n0)),.bool (ng n0),.int .u64 (lowN m0),.string (bigS m0),.int .u64 (lowN (sz n1)),.string (bigS (sz n1)),.bool (ng n1),.int .u64 (lowN m1),.string (bigS m1),.int .u64 (lowN (sz n2)),.string (bigS (sz n2)),.bool (ng n2),.int .u64 (lowN m2),.string (bigS m2)]from HP.out).f 2 (by simp)
     have x3:=(show VB _ pb [.int .u64 (lowN (sz n0)),.string (bigS (sz n0)),.bool (ng n0),.int .u64 (lowN m0),.string (bigS m0),.int .u64 (lowN (sz n1)),.string (bigS (sz n1)),.bool (ng n1),.int .u64 (lowN m1),.string (bigS m1),.int .u64 (lowN (sz n2)),.string (bigS (sz n2)),.bool (ng n2),.int .u64 (lowN m2),.string (bigS m2)]from HP.out).c 3 _ rfl
     have y3:=(show VB _ pb [.int .u64 (lowN (sz n0)),.string (bigS (sz n0)),.bool (ng n0),.int .u64 (lowN m0),.string (bigS m0),.int .u64 (lowN (sz n1)),.string (bigS (sz n1)),.bool (ng n1),.int .u64 (lowN m1),.string (bigS m1),.int .u64 (lowN (sz n2)),.string (bigS (sz n2)),.bool (ng n2),.int .u64 (lowN m2),.string (bigS m2)]from HP.out).f 3 (by simp)
     have x4:=(show VB _ pb [.int .u64 (lowN (sz n0)),.string (bigS (sz n0)),.bool (ng n0),.int .u64 (lowN m0),.string (bigS m0),.int .u64 (lowN (sz n1)),.string (bigS (sz n1)),.bool (ng n1),.int .u64 (lowN m1),.string (bigS m1),.int .u64 (lowN (sz n2)),.string (bigS (sz n2)),.bool (ng n2),.int .u64 (lowN m2),.string (bigS m2)]from HP.out).c 4 _ rfl
     have y4:=(show VB _ pb [.int .u64 (lowN (sz n0)),.string (bigS (sz n0)),.bool (ng n0),.int .u64 (lowN m0),.string (bigS m0),.int .u64 (lowN (sz n1)),.string (bigS (sz n1)),.bool (ng n1),.int .u64 (lowN m1),.string (bigS m1),.int .u64 (lowN (sz n2)),.string (bigS (sz n2)),.bool (ng n2),.int .u64 (lowN m2),.string (bigS m2)]from HP.out).f 4 (by simp)
     go_wp2_with fail
     go_roundw
     case rel=>
      refine⟨1,by omega,by go_num,Lib.hid ?_,Lib.hid ?_,Lib.hid ?_,Lib.hid ?_⟩
      ·exact VB.part (cs:= [.int .u64 (lowN (sz n0)),.string (bigS (sz n0)),.bool (ng n0),.int .u64 (lowN m0),.string (bigS m0),.int .u64 (lowN (sz n1)),.string (bigS (sz n1)),.bool (ng n1),.int .u64 (lowN m1),.string (bigS m1),.int .u64 (lowN (sz n2)),.string (bigS (sz n2)),.bool (ng n2),.int .u64 (lowN m2),.string (bigS m2)]) 0 [.int .u64 (lowN (sz q0)),.string (bigS (sz q0)),.bool (ng q0),.int .u64 (lowN d0),.string (bigS d0)] HP.out rfl (by simp)
      ·exact VB.fars (by omega) [.int .u64 (lowN (sz q0)),.string (bigS (sz q0)),.bool (ng q0),.int .u64 (lowN d0),.string (bigS d0)] 0 HT.out
      ·exact VB.fars (by omega) [.int .u64 (lowN (sz q0)),.string (bigS (sz q0)),.bool (ng q0),.int .u64 (lowN d0),.string (bigS d0)] 0 HZ.out
      ·exact Gr.sets (by omega) [.int .u64 (lowN (sz q0)),.string (bigS (sz q0)),.bool (ng q0),.int .u64 (lowN d0),.string (bigS d0)] 0 (HGB.out.trans (HGX.out.mono (by omega)))
     case measure=>simp [intOf]
   ·simp only [show((1:Nat):Int)=1 from rfl]
    have p0:=(show VB wr pb [.int .u64 (lowN (sz q0)),.string (bigS (sz q0)),.bool (ng q0),.int .u64 (lowN d0),.string (bigS d0),.int .u64 (lowN (sz n1)),.string (bigS (sz n1)),.bool (ng n1),.int .u64 (lowN m1),.string (bigS m1),.int .u64 (lowN (sz n2)),.string (bigS (sz n2)),.bool (ng n2),.int .u64 (lowN m2),.string (bigS m2)]from HVB.out).c 5 _ rfl
    have p1:=(show VB wr pb [.int .u64 (lowN (sz q0)),.string (bigS (sz q0)),.bool (ng q0),.int .u64 (lowN d0),.string (bigS d0),.int .u64 (lowN (sz n1)),.string (bigS (sz n1)),.bool (ng n1),.int .u64 (lowN m1),.string (bigS m1),.int .u64 (lowN (sz n2)),.string (bigS (sz n2)),.bool (ng n2),.int .u64 (lowN m2),.string (bigS m2)]from HVB.out).c 6 _ rfl
    have p2:=(show VB wr pb [.int .u64 (lowN (sz q0)),.string (bigS (sz q0)),.bool (ng q0),.int .u64 (lowN d0),.string (bigS d0),.int .u64 (lowN (sz n1)),.string (bigS (sz n1)),.bool (ng n1),.int .u64 (lowN m1),.string (bigS m1),.int .u64 (lowN (sz n2)),.string (bigS (sz n2)),.bool (ng n2),.int .u64 (lowN m2),.string (bigS m2)]from HVB.out).c 7 _ rfl
    have p3:=(show VB wr pb [.int .u64 (lowN (sz q0)),.string (bigS (sz q0)),.bool (ng q0),.int .u64 (lowN d0),.string (bigS d0),.int .u64 (lowN (sz n1)),.string (bigS (sz n1)),.bool (ng n1),.int .u64 (lowN m1),.string (bigS m1),.int .u64 (lowN (sz n2)),.string (bigS (sz n2)),.bool (ng n2),.int .u64 (lowN m2),.string (bigS m2)]from HVB.out).c 8 _ rfl
    have p4:=(show VB wr pb [.int .u64 (lowN (sz q0)),.string (bigS (sz q0)),.bool (ng q0),.int .u64 (lowN d0),.string (bigS d0),.int .u64 (lowN (sz n1)),.string (bigS (sz n1)),.bool (ng n1),.int .u64 (lowN m1),.string (bigS m1),.int .u64 (lowN (sz n2)),.string (bigS (sz n2)),.bool (ng n2),.int .u64 (lowN m2),.string (bigS m2)]from HVB.out).c 9 _ rfl
    have hw1:=hwk 1 (by omega)
    simp only [show((1:Nat):Int)=1 from rfl,Int.reduceAdd]at hw1
    go_upto_region 6 with fail
    go_cut [13,14] (fun v u wx=> ∃g,v= .pointer (some ⟨g,0,none⟩)∧u= .int .i64 0∧wr.heap.size≤g∧BarS wr wx g [.int .u64 (lowN (sz q1)),.string (bigS (sz q1)),.bool (ng q1),.int .u64 (lowN d1),.string (bigS d1)])
    case first=>
     refine wp_region_held_drew (S:=(fun w'=>w'.cell? ⟨pb,5,none⟩=some (.int .u64 (lowN (sz n1)))∧w'.cell? ⟨pb,6,none⟩=some (.string (bigS (sz n1)))∧w'.cell? ⟨pb,7,none⟩=some (.bool (ng n1))∧w'.cell? ⟨pb,8,none⟩=some (.int .u64 (lowN m1))∧w'.cell? ⟨pb,9,none⟩=some (.string (bigS m1))∧w'.cell? ⟨tb,0,none⟩=some (.int .u64 (lowN (sz n)))∧w'.cell? ⟨tb,1,none⟩=some (.string (bigS (sz n)))∧w'.cell? ⟨tb,2,none⟩=some (.bool (ng n))∧w'.cell? ⟨tb,3,none⟩=some (.int .u64 (lowN m))∧w'.cell? ⟨tb,4,none⟩=some (.string (bigS m)))) (by kernel_rfl) ?_ (fun hHeld=>?_)
     ·simp [go_sem, *]
     refine tk 0 (some 36) (.int .i64 1) ?_
     try simp only [pS]
     refine tk 1 (some 37) (.pointer (some ⟨pb,5,none⟩)) ?_
     try simp only [pS]
     refine tk 2 (some 38) (.agg #[.int .u64 (lowN (sz n1)),.string (bigS (sz n1)),.bool (ng n1),.int .u64 (lowN m1),.string (bigS m1)]) ?_
     try simp only [pS]
     refine tk 3 (some 39) (.agg #[.int .u64 (lowN (sz n)),.string (bigS (sz n)),.bool (ng n),.int .u64 (lowN m),.string (bigS m)]) ?_
     try simp only [pS]
     refine wpAnyH_ready (rs:= [4,8]) (by kernel_rfl) (by simp) ?_
     refine AllReadyH.cons rfl (fun K hK=>?_) (AllReadyH.cons rfl (fun K hK=>?_) AllReadyH.nil)
     ·go_simp
      (refine rtt (hd1.out _) fun w2 hsz2 hc2 hf2 HG2=>?_;(try simp at hsz2);have hy2_0:pb<w2.heap.size:=(by omega);have hy2_1:tb<w2.heap.size:=(by omega))
      (try dsimp only)
      refine hK.out _ _ ?_ (fun hQ1=>?_)
      ·(first|exact trivial|((try dsimp only);simp [go_sem, *]))
      clear hK K hHeld
      try simp only [pS]
      refine tk 5 (some 35) (.tuple #[.agg #[.int .u64 (lowN (sz q1)),.string (bigS (sz q1)),.bool (ng q1),.int .u64 (lowN d1),.string (bigS d1)],.int .i64 0]) ?_
      try simp only [pS]
      refine tk 6 (some 41) (.agg #[.int .u64 (lowN (sz q1)),.string (bigS (sz q1)),.bool (ng q1),.int .u64 (lowN d1),.string (bigS d1)]) ?_
      try simp only [pS]
      refine tk 7 (some 42) (.int .i64 0) ?_
      try simp only [pS]
      refine rd 8 (fun K hK=>?_)
      go_simp
      (try dsimp only)
      refine hK.out _ _ ?_ (fun hQ2=>?_)
      ·(first|exact trivial|((try dsimp only);simp [go_sem, *]))
      clear hK K hQ1
      try simp only [pS]
      have f0:¬pb=w2.heap.size:=by omega
      have f1:¬tb=w2.heap.size:=by omega
      refine rd 9 (fun K hK=>?_)
      go_simp
      (try dsimp only)
      refine hK.out _ _ ?_ (fun hQ3=>?_)
      ·(first|exact trivial|((try dsimp only);simp [go_sem, *]))
      clear hK K hQ2
      try simp only [pS]
      refine tk 10 (some 14) (.int .i64 0) ?_
      try simp only [pS]
      refine wpAnyH_done (by kernel_rfl) ?_ _
      go_wp2_with fail
      go_meet
      refine⟨w2.heap.size,rfl,rfl,by first|omega|(simp;done)|(simp;omega),⟨?_,?_⟩⟩
      ·(with_reducible (repeat' (first|(refine VB.new' ?_;exact(by first|omega|(simp;done)|(simp;omega)))|apply VB.put2|apply VB.put3|apply VB.put5|refine VB.drew ?_|refine VB.far ?_ ?_ _|refine VB.alloc ?_ _|refine VB.gr ?_ HG2.out ?_|omega|(simp;done)|(simp;omega))))
      ·exact gcc HG2 gzz
     ·go_simp
      (try dsimp only)
      refine hK.out _ _ ?_ (fun hQ1=>?_)
      ·(first|exact trivial|((try dsimp only);simp [go_sem, *]))
      clear hK K hHeld
      try simp only [pS]
      have k0:pb<wr.heap.size+1:=by omega
      have k1:tb<wr.heap.size+1:=by omega
      refine wpAnyH_ready (rs:= [4]) (by kernel_rfl) (by simp) ?_
      refine AllReadyH.cons rfl (fun K hK=>?_) AllReadyH.nil
      go_simp
      (refine rtt (hd1.out _) fun w2 hsz2 hc2 hf2 HG2=>?_;(try simp at hsz2);have hy2_0:pb<w2.heap.size:=(by omega);have hy2_1:tb<w2.heap.size:=(by omega);have hy2_2:wr.heap.size<w2.heap.size:=(by omega))
      (try dsimp only)
      refine hK.out _ _ ?_ (fun hQ2=>?_)
      ·(first|exact trivial|((try dsimp only);simp [go_sem, *]))
      clear hK K hQ1
      try simp only [pS]
      refine tk 5 (some 35) (.tuple #[.agg #[.int .u64 (lowN (sz q1)),.string (bigS (sz q1)),.bool (ng q1),.int .u64 (lowN d1),.string (bigS d1)],.int .i64 0]) ?_
      try simp only [pS]
      refine tk 6 (some 41) (.agg #[.int .u64 (lowN (sz q1)),.string (bigS (sz q1)),.bool (ng q1),.int .u64 (lowN d1),.string (bigS d1)]) ?_
      try simp only [pS]
      refine tk 7 (some 42) (.int .i64 0) ?_
      try simp only [pS]
      have f0:¬pb=wr.heap.size:=by omega
      have f1:¬tb=wr.heap.size:=by omega
      refine rd 9 (fun K hK=>?_)
      go_simp
      (try dsimp only)
      refine hK.out _ _ ?_ (fun hQ3=>?_)
      ·(first|exact trivial|((try dsimp only);simp [go_sem, *]))
      clear hK K hQ2
      try simp only [pS]
      refine tk 10 (some 14) (.int .i64 0) ?_
      try simp only [pS]
      refine wpAnyH_done (by kernel_rfl) ?_ _
      go_wp2_with fail
      go_meet
      refine⟨wr.heap.size,rfl,rfl,by first|omega|(simp;done)|(simp;omega),⟨?_,?_⟩⟩
      ·(with_reducible (repeat' (first|(refine VB.new' ?_;exact(by first|omega|(simp;done)|(simp;omega)))|apply VB.put2|apply VB.put3|apply VB.put5|refine VB.drew ?_|refine VB.far ?_ ?_ _|refine VB.alloc ?_ _|refine VB.gr ?_ HG2.out ?_|omega|(simp;done)|(simp;omega))))
      ·exact gcc HG2 gzz
    case rest=>
     obtain ⟨g,rfl,rfl,hgl,hB⟩:=hcut
     obtain ⟨s0,s1,s2,s3,s4,_,_,_,_,_⟩:=hB.v.five
     have HGX:=Lib.hid hB.gr
     have hszx:=hB.gr.size
     have hvx:=hB.v.lt
     have HP:=Lib.hid (HVB.out.gr hB.gr g0)
     have HT:=Lib.hid (HVT.out.gr hB.gr g1)
     have HZ:=Lib.hid (HVZ.out.gr hB.gr g2)
     have HX:=Lib.hid hB.v
     clear hB
     have x0:=(show VB _ pb [.int .u64 (lowN (sz q0)),.string (bigS (sz q0)),.bool (ng q0),.int .u64 (lowN d0),.string (bigS d0),.int .u64 (lowN (sz n1)),.string (bigS (sz n1)),.bool (ng n1),.int .u64 (lowN m1),.string (bigS m1),.int .u64 (lowN (sz n2)),.string (bigS (sz n2)),.bool (ng n2),.int .u64 (lowN m2),.string (bigS m2)]from HP.out).c 5 _ rfl
     have y0:=(show VB _ pb [.int .u64 (lowN (sz q0)),.string (bigS (sz q0)),.bool (ng q0),.int .u64 (lowN d0),.string (bigS d0),.int .u64 (lowN (sz n1)),.string (bigS (sz n1)),.bool (ng n1),.int .u64 (lowN m1),.string (bigS m1),.int .u64 (lowN (sz n2)),.string (bigS (sz n2)),.bool (ng n2),.int .u64 (lowN m2),.string (bigS m2)]from HP.out).f 5 (by simp)
     have x1:=(show VB _ pb [.int .u64 (lowN (sz q0)),.string (bigS (sz q0)),.bool (ng q0),.int .u64 (lowN d0),.string (bigS d0),.int .u64 (lowN (sz n1)),.string (bigS (sz n1)),.bool (ng n1),.int .u64 (lowN m1),.string (bigS m1),.int .u64 (lowN (sz n2)),.string (bigS (sz n2)),.bool (ng n2),.int .u64 (lowN m2),.string (bigS m2)]from HP.out).c 6 _ rfl
     have y1:=(show VB _ pb [.int .u64 (lowN (sz q0)),.string (bigS (sz q0)),.bool (ng q0),.int .u64 (lowN d0),.string (bigS d0),.int .u64 (lowN (sz n1)),.string (bigS (sz n1)),.bool (ng n1),.int .u64 (lowN m1),.string (bigS m1),.int .u64 (lowN (sz n2)),.string (bigS (sz n2)),.bool (ng n2),.int .u64 (lowN m2),.string (bigS m2)]from HP.out).f 6 (by simp)
     have x2:=(show VB _ pb [.int .u64 (lowN (sz q0)),.string (bigS (sz q0)),.bool (ng q0),.int .u64 (lowN d0),.string (bigS d0),.int .u64 (lowN (sz n1)),.string (bigS (sz n1)),.bool (ng n1),.int .u64 (lowN m1),.string (bigS m1),.int .u64 (lowN (sz n2)),.string (bigS (sz n2)),.bool (ng n2),.int .u64 (lowN m2),.string (bigS m2)]from HP.out).c 7 _ rfl
     have y2:=(show VB _ pb [.int .u64 (lowN (sz q0)),.string (bigS (sz q0)),.bool (ng q0),.int .u64 (lowN d0),.string (bigS d0),.int .u64 (lowN (sz n1)),.string (bigS (sz n1)),.bool (ng n1),.int .u64 (lowN m1),.string (bigS m1),.int .u64 (lowN (sz n2)),.string (bigS (sz n2)),.bool (ng n2),.int .u64 (lowN m2),.string (bigS m2)]from HP.out).f 7 (by simp)
     have x3:=(show VB _ pb [.int .u64 (lowN (sz q0)),.string (bigS (sz q0)),.bool (ng q0),.int .u64 (lowN d0),.string (bigS d0),.int .u64 (lowN (sz n1)),.string (bigS (sz n1)),.bool (ng n1),.int .u64 (lowN m1),.string (bigS m1),.int .u64 (lowN (sz n2)),.string (bigS (sz n2)),.bool (ng n2),.int .u64 (lowN m2),.string (bigS m2)]from HP.out).c 8 _ rfl
     have y3:=(show VB _ pb [.int .u64 (lowN (sz q0)),.string (bigS (sz q0)),.bool (ng q0),.int .u64 (lowN d0),.string (bigS d0),.int .u64 (lowN (sz n1)),.string (bigS (sz n1)),.bool (ng n1),.int .u64 (lowN m1),.string (bigS m1),.int .u64 (lowN (sz n2)),.string (bigS (sz n2)),.bool (ng n2),.int .u64 (lowN m2),.string (bigS m2)]from HP.out).f 8 (by simp)
     have x4:=(show VB _ pb [.int .u64 (lowN (sz q0)),.string (bigS (sz q0)),.bool (ng q0),.int .u64 (lowN d0),.string (bigS d0),.int .u64 (lowN (sz n1)),.string (bigS (sz n1)),.bool (ng n1),.int .u64 (lowN m1),.string (bigS m1),.int .u64 (lowN (sz n2)),.string (bigS (sz n2)),.bool (ng n2),.int .u64 (lowN m2),.string (bigS m2)]from HP.out).c 9 _ rfl
     have y4:=(show VB _ pb [.int .u64 (lowN (sz q0)),.string (bigS (sz q0)),.bool (ng q0),.int .u64 (lowN d0),.string (bigS d0),.int .u64 (lowN (sz n1)),.string (bigS (sz n1)),.bool (ng n1),.int .u64 (lowN m1),.string (bigS m1),.int .u64 (lowN (sz n2)),.string (bigS (sz n2)),.bool (ng n2),.int .u64 (lowN m2),.string (bigS m2)]from HP.out).f 9 (by simp)
     go_wp2_with fail
     go_roundw
     case rel=>
      refine⟨2,by omega,by go_num,Lib.hid ?_,Lib.hid ?_,Lib.hid ?_,Lib.hid ?_⟩
      ·exact VB.part (cs:= [.int .u64 (lowN (sz q0)),.string (bigS (sz q0)),.bool (ng q0),.int .u64 (lowN d0),.string (bigS d0),.int .u64 (lowN (sz n1)),.string (bigS (sz n1)),.bool (ng n1),.int .u64 (lowN m1),.string (bigS m1),.int .u64 (lowN (sz n2)),.string (bigS (sz n2)),.bool (ng n2),.int .u64 (lowN m2),.string (bigS m2)]) 5 [.int .u64 (lowN (sz q1)),.string (bigS (sz q1)),.bool (ng q1),.int .u64 (lowN d1),.string (bigS d1)] HP.out rfl (by simp)
      ·exact VB.fars (by omega) [.int .u64 (lowN (sz q1)),.string (bigS (sz q1)),.bool (ng q1),.int .u64 (lowN d1),.string (bigS d1)] 5 HT.out
      ·exact VB.fars (by omega) [.int .u64 (lowN (sz q1)),.string (bigS (sz q1)),.bool (ng q1),.int .u64 (lowN d1),.string (bigS d1)] 5 HZ.out
      ·exact Gr.sets (by omega) [.int .u64 (lowN (sz q1)),.string (bigS (sz q1)),.bool (ng q1),.int .u64 (lowN d1),.string (bigS d1)] 5 (HGB.out.trans (HGX.out.mono (by omega)))
     case measure=>simp [intOf]
   ·simp only [show((2:Nat):Int)=2 from rfl]
    have p0:=(show VB wr pb [.int .u64 (lowN (sz q0)),.string (bigS (sz q0)),.bool (ng q0),.int .u64 (lowN d0),.string (bigS d0),.int .u64 (lowN (sz q1)),.string (bigS (sz q1)),.bool (ng q1),.int .u64 (lowN d1),.string (bigS d1),.int .u64 (lowN (sz n2)),.string (bigS (sz n2)),.bool (ng n2),.int .u64 (lowN m2),.string (bigS m2)]from HVB.out).c 10 _ rfl
    have p1:=(show VB wr pb [.int .u64 (lowN (sz q0)),.string (bigS (sz q0)),.bool (ng q0),.int .u64 (lowN d0),.string (bigS d0),.int .u64 (lowN (sz q1)),.string (bigS (sz q1)),.bool (ng q1),.int .u64 (lowN d1),.string (bigS d1),.int .u64 (lowN (sz n2)),.string (bigS (sz n2)),.bool (ng n2),.int .u64 (lowN m2),.string (bigS m2)]from HVB.out).c 11 _ rfl
    have p2:=(show VB wr pb [.int .u64 (lowN (sz q0)),.string (bigS (sz q0)),.bool (ng q0),.int .u64 (lowN d0),.string (bigS d0),.int .u64 (lowN (sz q1)),.string (bigS (sz q1)),.bool (ng q1),.int .u64 (lowN d1),.string (bigS d1),.int .u64 (lowN (sz n2)),.string (bigS (sz n2)),.bool (ng n2),.int .u64 (lowN m2),.string (bigS m2)]from HVB.out).c 12 _ rfl
    have p3:=(show VB wr pb [.int .u64 (lowN (sz q0)),.string (bigS (sz q0)),.bool (ng q0),.int .u64 (lowN d0),.string (bigS d0),.int .u64 (lowN (sz q1)),.string (bigS (sz q1)),.bool (ng q1),.int .u64 (lowN d1),.string (bigS d1),.int .u64 (lowN (sz n2)),.string (bigS (sz n2)),.bool (ng n2),.int .u64 (lowN m2),.string (bigS m2)]from HVB.out).c 13 _ rfl
    have p4:=(show VB wr pb [.int .u64 (lowN (sz q0)),.string (bigS (sz q0)),.bool (ng q0),.int .u64 (lowN d0),.string (bigS d0),.int .u64 (lowN (sz q1)),.string (bigS (sz q1)),.bool (ng q1),.int .u64 (lowN d1),.string (bigS d1),.int .u64 (lowN (sz n2)),.string (bigS (sz n2)),.bool (ng n2),.int .u64 (lowN m2),.string (bigS m2)]from HVB.out).c 14 _ rfl
    have hw1:=hwk 2 (by omega)
    simp only [show((2:Nat):Int)=2 from rfl,Int.reduceAdd]at hw1
    go_upto_region 6 with fail
    go_cut [13,14] (fun v u wx=> ∃g,v= .pointer (some ⟨g,0,none⟩)∧u= .int .i64 0∧wr.heap.size≤g∧BarS wr wx g [.int .u64 (lowN (sz q2)),.string (bigS (sz q2)),.bool (ng q2),.int .u64 (lowN d2),.string (bigS d2)])
    case first=>
     refine wp_region_held_drew (S:=(fun w'=>w'.cell? ⟨pb,10,none⟩=some (.int .u64 (lowN (sz n2)))∧w'.cell? ⟨pb,11,none⟩=some (.string (bigS (sz n2)))∧w'.cell? ⟨pb,12,none⟩=some (.bool (ng n2))∧w'.cell? ⟨pb,13,none⟩=some (.int .u64 (lowN m2))∧w'.cell? ⟨pb,14,none⟩=some (.string (bigS m2))∧w'.cell? ⟨tb,0,none⟩=some (.int .u64 (lowN (sz n)))∧w'.cell? ⟨tb,1,none⟩=some (.string (bigS (sz n)))∧w'.cell? ⟨tb,2,none⟩=some (.bool (ng n))∧w'.cell? ⟨tb,3,none⟩=some (.int .u64 (lowN m))∧w'.cell? ⟨tb,4,none⟩=some (.string (bigS m)))) (by kernel_rfl) ?_ (fun hHeld=>?_)
     ·simp [go_sem, *]
     refine tk 0 (some 36) (.int .i64 2) ?_
     try simp only [pS]
     refine tk 1 (some 37) (.pointer (some ⟨pb,10,none⟩)) ?_
     try simp only [pS]
     refine tk 2 (some 38) (.agg #[.int .u64 (lowN (sz n2)),.string (bigS (sz n2)),.bool (ng n2),.int .u64 (lowN m2),.string (bigS m2)]) ?_
     try simp only [pS]
     refine tk 3 (some 39) (.agg #[.int .u64 (lowN (sz n)),.string (bigS (sz n)),.bool (ng n),.int .u64 (lowN m),.string (bigS m)]) ?_
     try simp only [pS]
     refine wpAnyH_ready (rs:= [4,8]) (by kernel_rfl) (by simp) ?_
     refine AllReadyH.cons rfl (fun K hK=>?_) (AllReadyH.cons rfl (fun K hK=>?_) AllReadyH.nil)
     ·go_simp
      (refine rtt (hd2.out _) fun w2 hsz2 hc2 hf2 HG2=>?_;(try simp at hsz2);have hy2_0:pb<w2.heap.size:=(by omega);have hy2_1:tb<w2.heap.size:=(by omega))
      (try dsimp only)
      refine hK.out _ _ ?_ (fun hQ1=>?_)
      ·(first|exact trivial|((try dsimp only);simp [go_sem, *]))
      clear hK K hHeld
      try simp only [pS]
      refine tk 5 (some 35) (.tuple #[.agg #[.int .u64 (lowN (sz q2)),.string (bigS (sz q2)),.bool (ng q2),.int .u64 (lowN d2),.string (bigS d2)],.int .i64 0]) ?_
      try simp only [pS]
      refine tk 6 (some 41) (.agg #[.int .u64 (lowN (sz q2)),.string (bigS (sz q2)),.bool (ng q2),.int .u64 (lowN d2),.string (bigS d2)]) ?_
      try simp only [pS]
      refine tk 7 (some 42) (.int .i64 0) ?_
      try simp only [pS]
      refine rd 8 (fun K hK=>?_)
      go_simp
      (try dsimp only)
      refine hK.out _ _ ?_ (fun hQ2=>?_)
      ·(first|exact trivial|((try dsimp only);simp [go_sem, *]))
      clear hK K hQ1
      try simp only [pS]
      have f0:¬pb=w2.heap.size:=by omega
      have f1:¬tb=w2.heap.size:=by omega
      refine rd 9 (fun K hK=>?_)
      go_simp
      (try dsimp only)
      refine hK.out _ _ ?_ (fun hQ3=>?_)
      ·(first|exact trivial|((try dsimp only);simp [go_sem, *]))
      clear hK K hQ2
      try simp only [pS]
      refine tk 10 (some 14) (.int .i64 0) ?_
      try simp only [pS]
      refine wpAnyH_done (by kernel_rfl) ?_ _
      go_wp2_with fail
      go_meet
      refine⟨w2.heap.size,rfl,rfl,by first|omega|(simp;done)|(simp;omega),⟨?_,?_⟩⟩
      ·(with_reducible (repeat' (first|(refine VB.new' ?_;exact(by first|omega|(simp;done)|(simp;omega)))|apply VB.put2|apply VB.put3|apply VB.put5|refine VB.drew ?_|refine VB.far ?_ ?_ _|refine VB.alloc ?_ _|refine VB.gr ?_ HG2.out ?_|omega|(simp;done)|(simp;omega))))
      ·exact gcc HG2 gzz
     ·go_simp
      (try dsimp only)
      refine hK.out _ _ ?_ (fun hQ1=>?_)
      ·(first|exact trivial|((try dsimp only);simp [go_sem, *]))
      clear hK K hHeld
      try simp only [pS]
      have k0:pb<wr.heap.size+1:=by omega
      have k1:tb<wr.heap.size+1:=by omega
      refine wpAnyH_ready (rs:= [4]) (by kernel_rfl) (by simp) ?_
      refine AllReadyH.cons rfl (fun K hK=>?_) AllReadyH.nil
      go_simp
      (refine rtt (hd2.out _) fun w2 hsz2 hc2 hf2 HG2=>?_;(try simp at hsz2);have hy2_0:pb<w2.heap.size:=(by omega);have hy2_1:tb<w2.heap.size:=(by omega);have hy2_2:wr.heap.size<w2.heap.size:=(by omega))
      (try dsimp only)
      refine hK.out _ _ ?_ (fun hQ2=>?_)
      ·(first|exact trivial|((try dsimp only);simp [go_sem, *]))
      clear hK K hQ1
      try simp only [pS]
      refine tk 5 (some 35) (.tuple #[.agg #[.int .u64 (lowN (sz q2)),.string (bigS (sz q2)),.bool (ng q2),.int .u64 (lowN d2),.string (bigS d2)],.int .i64 0]) ?_
      try simp only [pS]
      refine tk 6 (some 41) (.agg #[.int .u64 (lowN (sz q2)),.string (bigS (sz q2)),.bool (ng q2),.int .u64 (lowN d2),.string (bigS d2)]) ?_
      try simp only [pS]
      refine tk 7 (some 42) (.int .i64 0) ?_
      try simp only [pS]
      have f0:¬pb=wr.heap.size:=by omega
      have f1:¬tb=wr.heap.size:=by omega
      refine rd 9 (fun K hK=>?_)
      go_simp
      (try dsimp only)
      refine hK.out _ _ ?_ (fun hQ3=>?_)
      ·(first|exact trivial|((try dsimp only);simp [go_sem, *]))
      clear hK K hQ2
      try simp only [pS]
      refine tk 10 (some 14) (.int .i64 0) ?_
      try simp only [pS]
      refine wpAnyH_done (by kernel_rfl) ?_ _
      go_wp2_with fail
      go_meet
      refine⟨wr.heap.size,rfl,rfl,by first|omega|(simp;done)|(simp;omega),⟨?_,?_⟩⟩
      ·(with_reducible (repeat' (first|(refine VB.new' ?_;exact(by first|omega|(simp;done)|(simp;omega)))|apply VB.put2|apply VB.put3|apply VB.put5|refine VB.drew ?_|refine VB.far ?_ ?_ _|refine VB.alloc ?_ _|refine VB.gr ?_ HG2.out ?_|omega|(simp;done)|(simp;omega))))
      ·exact gcc HG2 gzz
    case rest=>
     obtain ⟨g,rfl,rfl,hgl,hB⟩:=hcut
     obtain ⟨s0,s1,s2,s3,s4,_,_,_,_,_⟩:=hB.v.five
     have HGX:=Lib.hid hB.gr
     have hszx:=hB.gr.size
     have hvx:=hB.v.lt
     have HP:=Lib.hid (HVB.out.gr hB.gr g0)
     have HT:=Lib.hid (HVT.out.gr hB.gr g1)
     have HZ:=Lib.hid (HVZ.out.gr hB.gr g2)
     have HX:=Lib.hid hB.v
     clear hB
     have x0:=(show VB _ pb [.int .u64 (lowN (sz q0)),.string (bigS (sz q0)),.bool (ng q0),.int .u64 (lowN d0),.string (bigS d0),.int .u64 (lowN (sz q1)),.string (bigS (sz q1)),.bool (ng q1),.int .u64 (lowN d1),.string (bigS d1),.int .u64 (lowN (sz n2)),.string (bigS (sz n2)),.bool (ng n2),.int .u64 (lowN m2),.string (bigS m2)]from HP.out).c 10 _ rfl
     have y0:=(show VB _ pb [.int .u64 (lowN (sz q0)),.string (bigS (sz q0)),.bool (ng q0),.int .u64 (lowN d0),.string (bigS d0),.int .u64 (lowN (sz q1)),.string (bigS (sz q1)),.bool (ng q1),.int .u64 (lowN d1),.string (bigS d1),.int .u64 (lowN (sz n2)),.string (bigS (sz n2)),.bool (ng n2),.int .u64 (lowN m2),.string (bigS m2)]from HP.out).f 10 (by simp)
     have x1:=(show VB _ pb [.int .u64 (lowN (sz q0)),.string (bigS (sz q0)),.bool (ng q0),.int .u64 (lowN d0),.string (bigS d0),.int .u64 (lowN (sz q1)),.string (bigS (sz q1)),.bool (ng q1),.int .u64 (lowN d1),.string (bigS d1),.int .u64 (lowN (sz n2)),.string (bigS (sz n2)),.bool (ng n2),.int .u64 (lowN m2),.string (bigS m2)]from HP.out).c 11 _ rfl
     have y1:=(show VB _ pb [.int .u64 (lowN (sz q0)),.string (bigS (sz q0)),.bool (ng q0),.int .u64 (lowN d0),.string (bigS d0),.int .u64 (lowN (sz q1)),.string (bigS (sz q1)),.bool (ng q1),.int .u64 (lowN d1),.string (bigS d1),.int .u64 (lowN (sz n2)),.string (bigS (sz n2)),.bool (ng n2),.int .u64 (lowN m2),.string (bigS m2)]from HP.out).f 11 (by simp)
     have x2:=(show VB _ pb [.int .u64 (lowN (sz q0)),.string (bigS (sz q0)),.bool (ng q0),.int .u64 (lowN d0),.string (bigS d0),.int .u64 (lowN (sz q1)),.string (bigS (sz q1)),.bool (ng q1),.int .u64 (lowN d1),.string (bigS d1),.int .u64 (lowN (sz n2)),.string (bigS (sz n2)),.bool (ng n2),.int .u64 (lowN m2),.string (bigS m2)]from HP.out).c 12 _ rfl
     have y2:=(show VB _ pb [.int .u64 (lowN (sz q0)),.string (bigS (sz q0)),.bool (ng q0),.int .u64 (lowN d0),.string (bigS d0),.int .u64 (lowN (sz q1)),.string (bigS (sz q1)),.bool (ng q1),.int .u64 (lowN d1),.string (bigS d1),.int .u64 (lowN (sz n2)),.string (bigS (sz n2)),.bool (ng n2),.int .u64 (lowN m2),.string (bigS m2)]from HP.out).f 12 (by simp)
     have x3:=(show VB _ pb [.int .u64 (lowN (sz q0)),.string (bigS (sz q0)),.bool (ng q0),.int .u64 (lowN d0),.string (bigS d0),.int .u64 (lowN (sz q1)),.string (bigS (sz q1)),.bool (ng q1),.int .u64 (lowN d1),.string (bigS d1),.int .u64 (lowN (sz n2)),.string (bigS (sz n2)),.bool (ng n2),.int .u64 (lowN m2),.string (bigS m2)]from HP.out).c 13 _ rfl
     have y3:=(show VB _ pb [.int .u64 (lowN (sz q0)),.string (bigS (sz q0)),.bool (ng q0),.int .u64 (lowN d0),.string (bigS d0),.int .u64 (lowN (sz q1)),.string (bigS (sz q1)),.bool (ng q1),.int .u64 (lowN d1),.string (bigS d1),.int .u64 (lowN (sz n2)),.string (bigS (sz n2)),.bool (ng n2),.int .u64 (lowN m2),.string (bigS m2)]from HP.out).f 13 (by simp)
     have x4:=(show VB _ pb [.int .u64 (lowN (sz q0)),.string (bigS (sz q0)),.bool (ng q0),.int .u64 (lowN d0),.string (bigS d0),.int .u64 (lowN (sz q1)),.string (bigS (sz q1)),.bool (ng q1),.int .u64 (lowN d1),.string (bigS d1),.int .u64 (lowN (sz n2)),.string (bigS (sz n2)),.bool (ng n2),.int .u64 (lowN m2),.string (bigS m2)]from HP.out).c 14 _ rfl
     have y4:=(show VB _ pb [.int .u64 (lowN (sz q0)),.string (bigS (sz q0)),.bool (ng q0),.int .u64 (lowN d0),.string (bigS d0),.int .u64 (lowN (sz q1)),.string (bigS (sz q1)),.bool (ng q1),.int .u64 (lowN d1),.string (bigS d1),.int .u64 (lowN (sz n2)),.string (bigS (sz n2)),.bool (ng n2),.int .u64 (lowN m2),.string (bigS m2)]from HP.out).f 14 (by simp)
     go_wp2_with fail
     go_roundw
     case rel=>
      refine⟨3,by omega,by go_num,Lib.hid ?_,Lib.hid ?_,Lib.hid ?_,Lib.hid ?_⟩
      ·exact VB.part (cs:= [.int .u64 (lowN (sz q0)),.string (bigS (sz q0)),.bool (ng q0),.int .u64 (lowN d0),.string (bigS d0),.int .u64 (lowN (sz q1)),.string (bigS (sz q1)),.bool (ng q1),.int .u64 (lowN d1),.string (bigS d1),.int .u64 (lowN (sz n2)),.string (bigS (sz n2)),.bool (ng n2),.int .u64 (lowN m2),.string (bigS m2)]) 10 [.int .u64 (lowN (sz q2)),.string (bigS (sz q2)),.bool (ng q2),.int .u64 (lowN d2),.string (bigS d2)] HP.out rfl (by simp)
      ·exact VB.fars (by omega) [.int .u64 (lowN (sz q2)),.string (bigS (sz q2)),.bool (ng q2),.int .u64 (lowN d2),.string (bigS d2)] 10 HT.out
      ·exact VB.fars (by omega) [.int .u64 (lowN (sz q2)),.string (bigS (sz q2)),.bool (ng q2),.int .u64 (lowN d2),.string (bigS d2)] 10 HZ.out
      ·exact Gr.sets (by omega) [.int .u64 (lowN (sz q2)),.string (bigS (sz q2)),.bool (ng q2),.int .u64 (lowN d2),.string (bigS d2)] 10 (HGB.out.trans (HGX.out.mono (by omega)))
     case measure=>simp [intOf]
   ·simp only [show((3:Nat):Int)=3 from rfl]
    have HP:=Lib.hid (show VB wr pb [.int .u64 (lowN (sz q0)),.string (bigS (sz q0)),.bool (ng q0),.int .u64 (lowN d0),.string (bigS d0),.int .u64 (lowN (sz q1)),.string (bigS (sz q1)),.bool (ng q1),.int .u64 (lowN d1),.string (bigS d1),.int .u64 (lowN (sz q2)),.string (bigS (sz q2)),.bool (ng q2),.int .u64 (lowN d2),.string (bigS d2)]from HVB.out)
    have p0:=HP.out.c 0 _ rfl
    have p1:=HP.out.c 1 _ rfl
    have p2:=HP.out.c 2 _ rfl
    have p3:=HP.out.c 3 _ rfl
    have p4:=HP.out.c 4 _ rfl
    have p5:=HP.out.c 5 _ rfl
    have p6:=HP.out.c 6 _ rfl
    have p7:=HP.out.c 7 _ rfl
    have p8:=HP.out.c 8 _ rfl
    have p9:=HP.out.c 9 _ rfl
    have p10:=HP.out.c 10 _ rfl
    have p11:=HP.out.c 11 _ rfl
    have p12:=HP.out.c 12 _ rfl
    have p13:=HP.out.c 13 _ rfl
    have p14:=HP.out.c 14 _ rfl
    have z0:=HVZ.out.c 0 _ rfl
    have y0:=HVZ.out.f 0 (by simp)
    have z1:=HVZ.out.c 1 _ rfl
    have y1:=HVZ.out.f 1 (by simp)
    have z2:=HVZ.out.c 2 _ rfl
    have y2:=HVZ.out.f 2 (by simp)
    have z3:=HVZ.out.c 3 _ rfl
    have y3:=HVZ.out.f 3 (by simp)
    have z4:=HVZ.out.c 4 _ rfl
    have y4:=HVZ.out.f 4 (by simp)
    have z5:=HVZ.out.c 5 _ rfl
    have y5:=HVZ.out.f 5 (by simp)
    have z6:=HVZ.out.c 6 _ rfl
    have y6:=HVZ.out.f 6 (by simp)
    have z7:=HVZ.out.c 7 _ rfl
    have y7:=HVZ.out.f 7 (by simp)
    have z8:=HVZ.out.c 8 _ rfl
    have y8:=HVZ.out.f 8 (by simp)
    have z9:=HVZ.out.c 9 _ rfl
    have y9:=HVZ.out.f 9 (by simp)
    have z10:=HVZ.out.c 10 _ rfl
    have y10:=HVZ.out.f 10 (by simp)
    have z11:=HVZ.out.c 11 _ rfl
    have y11:=HVZ.out.f 11 (by simp)
    have z12:=HVZ.out.c 12 _ rfl
    have y12:=HVZ.out.f 12 (by simp)
    have z13:=HVZ.out.c 13 _ rfl
    have y13:=HVZ.out.f 13 (by simp)
    have z14:=HVZ.out.c 14 _ rfl
    have y14:=HVZ.out.f 14 (by simp)
    go_wp2
    refine ret_row2 (g:=w.heap.size+1+1+1+1) Tryz.results183 rfl rfl (VB.set (cs:= [.int .u64 0,.string ⟨#[]⟩,.bool false,.int .u64 0,.string ⟨#[]⟩,.int .u64 0,.string ⟨#[]⟩,.bool false,.int .u64 0,.string ⟨#[]⟩,.int .u64 0,.string ⟨#[]⟩,.bool false,.int .u64 0,.string ⟨#[]⟩]) HVZ.out [.int .u64 (lowN (sz q0)),.string (bigS (sz q0)),.bool (ng q0),.int .u64 (lowN d0),.string (bigS d0),.int .u64 (lowN (sz q1)),.string (bigS (sz q1)),.bool (ng q1),.int .u64 (lowN d1),.string (bigS d1),.int .u64 (lowN (sz q2)),.string (bigS (sz q2)),.bool (ng q2),.int .u64 (lowN d2),.string (bigS d2)] rfl) Tryz.underlying261 rfl info_F3 rfl ⟨rfl,?_⟩
    exact Gr.sets (by omega) [.int .u64 (lowN (sz q0)),.string (bigS (sz q0)),.bool (ng q0),.int .u64 (lowN d0),.string (bigS d0),.int .u64 (lowN (sz q1)),.string (bigS (sz q1)),.bool (ng q1),.int .u64 (lowN d1),.string (bigS d1),.int .u64 (lowN (sz q2)),.string (bigS (sz q2)),.bool (ng q2),.int .u64 (lowN d2),.string (bigS d2)] 0 HGB.out
end Go.Proofs.YtfgmdhjmgdccdaaGreat
