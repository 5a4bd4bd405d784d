/-
  Part 16 of the proof: Beyond Bary.
-/
import Derived.Test.YtfgmdhjmgdccdaaGreatJ14
import Derived.Test.YtfgmdhjmgdccdaaGreatJ15
set_option linter.unusedSimpArgs false
set_option linter.unusedVariables false
set_option maxHeartbeats 8000000
namespace Go.Proofs.YtfgmdhjmgdccdaaGreat
open Go.RowKit Gus
structure BeyS (w wr wx:World) (gp gq:Nat) (p q:Pt):Prop where
 p:VB wx gp (pC p)
 q:VB wx gq (pC q)
 gr:Gr wr.heap.size wr wx
theorem Shx.new (w:World) (cs:Array Value) (t:TypeId):Shx (w.alloc (.cells cs t)) w.heap.size t:=⟨cs.size,cs,(MapKept.heap_alloc w _).1,rfl⟩
theorem Shx.gr {w w':World} {g B:Nat} {t:TypeId} (h:Shx w g t) (hg:Gr B w w') (hB:g<B):Shx w' g t:=by obtain ⟨N,h⟩:=h;exact⟨N,h.gr hg hB⟩
theorem SR.three {w:World} {g:Nat} {t:TypeId} {d e f:Pt} (h:VB w g (c3C d e f)) (hs:Shx w g t):SR pC 10 t w 0 (.slice (some ⟨g,0,none⟩) 3 3) [d,e,f]:=
 .inr ⟨g,3,rfl,Nat.zero_le _,Nat.le_refl _,by simp [maxLen],hs,RC.of_flat pC_len fun i u hu=>h.c i u hu⟩
theorem VB.fars {g b:Nat} {cs:List Value} (hne:b≠g):∀(vs:List Value) (o:Nat) {w:World},VB w g cs→VB (w.setCells b o vs) g cs
 | [],_,_,h=>h
 | v :: r,o,_,h=>VB.fars hne r (o+1) (h.far hne v)
end Go.Proofs.YtfgmdhjmgdccdaaGreat
namespace Go.Proofs.YtfgmdhjmgdccdaaGreat
open Go.RowKit Gus
def barP (n0 n1 n2 q0 q1 q2:Int) (m0 m1 m2 d0 d1 d2:Nat):Nat→List Value
 | 0=> [nA n0,nB n0,nC n0,nD m0,nE m0,nA n1,nB n1,nC n1,nD m1,nE m1,nA n2,nB n2,nC n2,nD m2,nE m2]
 | 1=> [nA q0,nB q0,nC q0,nD d0,nE d0,nA n1,nB n1,nC n1,nD m1,nE m1,nA n2,nB n2,nC n2,nD m2,nE m2]
 | 2=> [nA q0,nB q0,nC q0,nD d0,nE d0,nA q1,nB q1,nC q1,nD d1,nE d1,nA n2,nB n2,nC n2,nD m2,nE m2]
 | _=> [nA q0,nB q0,nC q0,nD d0,nE d0,nA q1,nB q1,nC q1,nD d1,nE d1,nA q2,nB q2,nC q2,nD d2,nE d2]
theorem VB.part {w:World} {g:Nat} {cs:List Value} (o:Nat) (vs:List Value) {ds:List Value} (h:VB w g cs) (hd:ds=cs.take o++vs++cs.drop (o+vs.length)) (ho:o+vs.length≤cs.length):VB (w.setCells g o vs) g ds:=by
 subst hd
 have hlt:(cs.take o).length=o:=by simp;omega
 refine⟨fun j v hv=>?_,fun j hj=>(World.frozen?_setCells g vs o w ⟨g,j,none⟩).trans (h.f j ?_),Nat.lt_of_lt_of_le h.lt (Gr.sets (B:=0) (Nat.zero_le _) vs o (Gr.refl 0 w)).size⟩
 ·rw [List.append_assoc]at hv
  by_cases h1:j<o
  ·rw [World.cell?_setCells_out g vs o w ⟨g,j,none⟩ (fun _ _=> .inl h1)]
   rw [List.getElem?_append_left (by omega),List.getElem?_take_of_lt h1]at hv
   exact h.c j v hv
  ·rw [List.getElem?_append_right (by omega),hlt]at hv
   by_cases h2:j - o<vs.length
   ·rw [List.getElem?_append_left h2]at hv
    have hin:=World.cell?_setCells_in g vs o w (fun i hi=>by
     rw [h.c (o+i) cs[o+i] (List.getElem?_eq_getElem (by omega))];rfl) (j - o) h2
    rw [show o+(j - o)=j by omega]at hin
    rw [hin,←List.getElem?_eq_getElem h2,hv]
   ·rw [List.getElem?_append_right (by omega),List.getElem?_drop]at hv
    rw [World.cell?_setCells_out g vs o w ⟨g,j,none⟩ (fun _ _=> .inr (by simp;omega))]
    exact h.c j v (by rw [←hv];congr 1;omega)
 ·simp at hj;omega
structure BarS (w wx:World) (g:Nat) (cs:List Value):Prop where
 v:VB wx g cs
 gr:Gr w.heap.size w wx
set_option maxRecDepth 20000 in
theorem Bary_raw {a b c p:Pt} {n n0 n1 n2 q0 q1 q2:Int} {m m0 m1 m2 d0 d1 d2:Nat} (hA:(∀w,Calls Tryz.prog 50 #[pV a,pV b,pV c] w (Ret w (frV n m)))) (h0:(∀w,Calls Tryz.prog 50 #[pV p,pV b,pV c] w (Ret w (frV n0 m0)))) (h1:(∀w,Calls Tryz.prog 50 #[pV a,pV p,pV c] w (Ret w (frV n1 m1)))) (h2:(∀w,Calls Tryz.prog 50 #[pV a,pV b,pV p] w (Ret w (frV n2 m2)))) (hd0:(∀w,Calls Tryz.prog 69 #[frV n0 m0,frV n m] w (Ret w (.tuple #[frV q0 d0,.int .i64 0])))) (hd1:(∀w,Calls Tryz.prog 69 #[frV n1 m1,frV n m] w (Ret w (.tuple #[frV q1 d1,.int .i64 0])))) (hd2:(∀w,Calls Tryz.prog 69 #[frV n2 m2,frV n m] w (Ret w (.tuple #[frV q2 d2,.int .i64 0])))) (w:World):
  Calls Tryz.prog 183 #[pV a,pV b,pV c,pV p] w (Ret w (.tuple #[f3V q0 d0 q1 d1 q2 d2,.int .i64 0])):=by
 have hA:=Lh hA
 have h0:=Lh h0
 have h1:=Lh h1
 have h2:=Lh h2
 have hd0:=Lh hd0
 have hd1:=Lh hd1
 have hd2:=Lh hd2
 go_enter Tryz.func183,Tryz.ntmps183
 go_wp2_with fail
 (refine rtt (hA.out _) fun w1 hsz1 hc1 hf1 HG1=>?_;(try simp at hsz1);have hz1_0:w.heap.size<w1.heap.size:=(by omega);have hz1_1:w.heap.size+1<w1.heap.size:=(by omega);have hz1_2:w.heap.size+1+1<w1.heap.size:=(by omega);have hz1_3:w.heap.size+1+1+1<w1.heap.size:=(by omega);have hz1_4:w.heap.size+1+1+1+1<w1.heap.size:=(by omega))
 go_upto_region 2 with fail
 have hp0_1:w.heap.size<w1.heap.size+1:=(by omega)
 have hp0_2:w.heap.size<w1.heap.size+1+1:=(by omega)
 have hp1_1:w.heap.size+1<w1.heap.size+1:=(by omega)
 have hp1_2:w.heap.size+1<w1.heap.size+1+1:=(by omega)
 have hp2_1:w.heap.size+1+1<w1.heap.size+1:=(by omega)
 have hp2_2:w.heap.size+1+1<w1.heap.size+1+1:=(by omega)
 have hp3_1:w.heap.size+1+1+1<w1.heap.size+1:=(by omega)
 have hp3_2:w.heap.size+1+1+1<w1.heap.size+1+1:=(by omega)
 have hp4_1:w.heap.size+1+1+1+1<w1.heap.size+1:=(by omega)
 have hp4_2:w.heap.size+1+1+1+1<w1.heap.size+1+1:=(by omega)
 go_cut [11] (fun v wx=> ∃g,v= .pointer (some ⟨g,0,none⟩)∧w1.heap.size<g∧BarS w wx g (barP n0 n1 n2 q0 q1 q2 m0 m1 m2 d0 d1 d2 0)∧VB wx w1.heap.size [nA n,nB n,nC n,nD m,nE m]∧VB wx (w.heap.size+1+1+1+1) [zU,zS,.bool false,zU,zS,zU,zS,.bool false,zU,zS,zU,zS,.bool false,zU,zS])
 case first=>
  refine wp_region_held_drew (S:=(fun w'=>w'.cell? ⟨w.heap.size,0,none⟩=some (vA a.x)∧w'.cell? ⟨w.heap.size,1,none⟩=some (vB a.x)∧w'.cell? ⟨w.heap.size,2,none⟩=some (vC a.x)∧w'.cell? ⟨w.heap.size,3,none⟩=some (vD a.x)∧w'.cell? ⟨w.heap.size,4,none⟩=some (vE a.x)∧w'.cell? ⟨w.heap.size,5,none⟩=some (vA a.y)∧w'.cell? ⟨w.heap.size,6,none⟩=some (vB a.y)∧w'.cell? ⟨w.heap.size,7,none⟩=some (vC a.y)∧w'.cell? ⟨w.heap.size,8,none⟩=some (vD a.y)∧w'.cell? ⟨w.heap.size,9,none⟩=some (vE a.y)∧w'.cell? ⟨w.heap.size+1,0,none⟩=some (vA b.x)∧w'.cell? ⟨w.heap.size+1,1,none⟩=some (vB b.x)∧w'.cell? ⟨w.heap.size+1,2,none⟩=some (vC b.x)∧w'.cell? ⟨w.heap.size+1,3,none⟩=some (vD b.x)∧w'.cell? ⟨w.heap.size+1,4,none⟩=some (vE b.x)∧w'.cell? ⟨w.heap.size+1,5,none⟩=some (vA b.y)∧w'.cell? ⟨w.heap.size+1,6,none⟩=some (vB b.y)∧w'.cell? ⟨w.heap.size+1,7,none⟩=some (vC b.y)∧w'.cell? ⟨w.heap.size+1,8,none⟩=some (vD b.y)∧w'.cell? ⟨w.heap.size+1,9,none⟩=some (vE b.y)∧w'.cell? ⟨w.heap.size+1+1,0,none⟩=some (vA c.x)∧w'.cell? ⟨w.heap.size+1+1,1,none⟩=some (vB c.x)∧w'.cell? ⟨w.heap.size+1+1,2,none⟩=some (vC c.x)∧w'.cell? ⟨w.heap.size+1+1,3,none⟩=some (vD c.x)∧w'.cell? ⟨w.heap.size+1+1,4,none⟩=some (vE c.x)∧w'.cell? ⟨w.heap.size+1+1,5,none⟩=some (vA c.y)∧w'.cell? ⟨w.heap.size+1+1,6,none⟩=some (vB c.y)∧w'.cell? ⟨w.heap.size+1+1,7,none⟩=some (vC c.y)∧w'.cell? ⟨w.heap.size+1+1,8,none⟩=some (vD c.y)∧w'.cell? ⟨w.heap.size+1+1,9,none⟩=some (vE c.y)∧w'.cell? ⟨w.heap.size+1+1+1,0,none⟩=some (vA p.x)∧w'.cell? ⟨w.heap.size+1+1+1,1,none⟩=some (vB p.x)∧w'.cell? ⟨w.heap.size+1+1+1,2,none⟩=some (vC p.x)∧w'.cell? ⟨w.heap.size+1+1+1,3,none⟩=some (vD p.x)∧w'.cell? ⟨w.heap.size+1+1+1,4,none⟩=some (vE p.x)∧w'.cell? ⟨w.heap.size+1+1+1,5,none⟩=some (vA p.y)∧w'.cell? ⟨w.heap.size+1+1+1,6,none⟩=some (vB p.y)∧w'.cell? ⟨w.heap.size+1+1+1,7,none⟩=some (vC p.y)∧w'.cell? ⟨w.heap.size+1+1+1,8,none⟩=some (vD p.y)∧w'.cell? ⟨w.heap.size+1+1+1,9,none⟩=some (vE p.y))) (by kernel_rfl) ?_ (fun hHeld=>?_)
  ·simp [go_sem, *]
  refine tq 0 19 (pV p) ?_
  refine tq 1 20 (pV b) ?_
  refine tq 2 21 (pV c) ?_
  refine tq 4 23 (pV a) ?_
  refine tq 5 24 (pV p) ?_
  refine tq 6 25 (pV c) ?_
  refine tq 8 27 (pV a) ?_
  refine tq 9 28 (pV b) ?_
  refine tq 10 29 (pV p) ?_
  refine rdZ 3 13 (fun K hK=>?_) (fun K hK=>?_)
  ·go_simp
   (refine rtt (h0.out _) fun w2 hsz2 hc2 hf2 HG2=>?_;(try simp at hsz2);have hy2_0:w1.heap.size<w2.heap.size:=(by omega);have hz2_0:w.heap.size<w2.heap.size:=(by omega);have hz2_1:w.heap.size+1<w2.heap.size:=(by omega);have hz2_2:w.heap.size+1+1<w2.heap.size:=(by omega);have hz2_3:w.heap.size+1+1+1<w2.heap.size:=(by omega);have hz2_4:w.heap.size+1+1+1+1<w2.heap.size:=(by omega))
   (try dsimp only)
   refine hK.out _ _ ?_ (fun hQ1=>?_)
   ·(first|exact trivial|((try dsimp only);simp [go_sem, *]))
   clear hK K hHeld
   try simp only [pS]
   refine rdZ 7 13 (fun K hK=>?_) (fun K hK=>?_)
   ·go_simp
    (refine rtt (h1.out _) fun w3 hsz3 hc3 hf3 HG3=>?_;(try simp at hsz3);have hy3_0:w1.heap.size<w3.heap.size:=(by omega);have hz3_0:w.heap.size<w3.heap.size:=(by omega);have hz3_1:w.heap.size+1<w3.heap.size:=(by omega);have hz3_2:w.heap.size+1+1<w3.heap.size:=(by omega);have hz3_3:w.heap.size+1+1+1<w3.heap.size:=(by omega);have hz3_4:w.heap.size+1+1+1+1<w3.heap.size:=(by omega))
    (try dsimp only)
    refine hK.out _ _ ?_ (fun hQ2=>?_)
    ·(first|exact trivial|((try dsimp only);simp [go_sem, *]))
    clear hK K hQ1
    try simp only [pS]
    refine rdZ 11 13 (fun K hK=>?_) (fun K hK=>?_)
    ·go_simp
     (refine rtt (h2.out _) fun w4 hsz4 hc4 hf4 HG4=>?_;(try simp at hsz4);have hy4_0:w1.heap.size<w4.heap.size:=(by omega);have hz4_0:w.heap.size<w4.heap.size:=(by omega);have hz4_1:w.heap.size+1<w4.heap.size:=(by omega);have hz4_2:w.heap.size+1+1<w4.heap.size:=(by omega);have hz4_3:w.heap.size+1+1+1<w4.heap.size:=(by omega);have hz4_4:w.heap.size+1+1+1+1<w4.heap.size:=(by omega))
     (try dsimp only)
     refine hK.out _ _ ?_ (fun hQ3=>?_)
     ·(first|exact trivial|((try dsimp only);simp [go_sem, *]))
     clear hK K hQ2
     try simp only [pS]
     refine tq 12 31 (.agg #[nA n0,nB n0,nC n0,nD m0,nE m0,nA n1,nB n1,nC n1,nD m1,nE m1,nA n2,nB n2,nC n2,nD m2,nE m2]) ?_
     refine wpAnyH_ready (rs:= [13]) (by kernel_rfl) (by simp) ?_
     refine AllReadyH.cons rfl (fun K hK=>?_) AllReadyH.nil
     go_simp
     (try dsimp only)
     refine hK.out _ _ ?_ (fun hQ4=>?_)
     ·(first|exact trivial|((try dsimp only);simp [go_sem, *]))
     clear hK K hQ3
     try simp only [pS]
     refine wpAnyH_ready (rs:= [14]) (by kernel_rfl) (by simp) ?_
     refine AllReadyH.cons (o:=⟨none,_,_,_,_,_⟩) rfl (fun K hK=>?_) AllReadyH.nil
     rw [if_pos (by rfl)]
     refine wp_store_mid 261 _ _ rfl (w4.heap.size) 0 (List.toArray [nA n0,nB n0,nC n0,nD m0,nE m0,nA n1,nB n1,nC n1,nD m1,nE m1,nA n2,nB n2,nC n2,nD m2,nE m2]) rfl rfl (VB.there (cs:= [zU,zS,.bool false,zU,zS,zU,zS,.bool false,zU,zS,zU,zS,.bool false,zU,zS]) ?_) info_F3 (by first|rfl|simp [Value.oneCell']) ?_
     ·(with_reducible (repeat' (first|(refine VB.new' ?_;exact(by first|omega|(simp;done)|(simp;omega)))|apply VB.put2|apply VB.put3|apply VB.put5|refine VB.drew ?_|refine VB.far ?_ ?_ _|refine VB.alloc ?_ _|refine VB.gr ?_ HG4.out ?_|refine VB.gr ?_ HG3.out ?_|refine VB.gr ?_ HG2.out ?_|omega|(simp;done)|(simp;omega))))
     simp only [pS]
     refine hK.out _ _ ?_ (fun hQ5=>?_)
     ·have hh:=hQ4;(try dsimp only at hh ⊢);simp only [cell_sets_ne (show w.heap.size≠w4.heap.size by omega),cell_sets_ne (show w.heap.size+1≠w4.heap.size by omega),cell_sets_ne (show w.heap.size+1+1≠w4.heap.size by omega),cell_sets_ne (show w.heap.size+1+1+1≠w4.heap.size by omega)];exact hh
     clear hK K hQ4
     refine wpAnyH_done (by kernel_rfl) ?_ _
     go_wp2_with fail
     go_meet
     refine⟨_,rfl,by first|omega|(simp;done)|(simp;omega),⟨?_,?_⟩,?_,?_⟩
     ·refine VB.set (cs:= [zU,zS,.bool false,zU,zS,zU,zS,.bool false,zU,zS,zU,zS,.bool false,zU,zS]) ?_ (barP n0 n1 n2 q0 q1 q2 m0 m1 m2 d0 d1 d2 0) rfl
      (with_reducible (repeat' (first|(refine VB.new' ?_;exact(by first|omega|(simp;done)|(simp;omega)))|apply VB.put2|apply VB.put3|apply VB.put5|refine VB.drew ?_|refine VB.far ?_ ?_ _|refine VB.alloc ?_ _|refine VB.gr ?_ HG4.out ?_|refine VB.gr ?_ HG3.out ?_|refine VB.gr ?_ HG2.out ?_|omega|(simp;done)|(simp;omega))))
     ·exact Gr.sets (by omega) _ _ (by exact gcc HG4 (gcc HG3 (gcc HG2 (gcc HG1 gzz))))
     ·refine VB.fars (by omega) _ _ ?_
      exact vbc HG4 (vbc HG3 (vbc HG2 vbb))
     ·refine VB.fars (by omega) _ _ ?_
      exact vbc HG4 (vbc HG3 (vbc HG2 (vbc HG1 vbb)))
    ·go_simp
     (try dsimp only)
     refine hK.out _ _ ?_ (fun hQ3=>?_)
     ·(first|exact trivial|((try dsimp only);simp [go_sem, *]))
     clear hK K hQ2
     try simp only [pS]
     refine wpAnyH_ready (rs:= [11]) (by kernel_rfl) (by simp) ?_
     refine AllReadyH.cons rfl (fun K hK=>?_) AllReadyH.nil
     go_simp
     (refine rtt (h2.out _) fun w4 hsz4 hc4 hf4 HG4=>?_;(try simp at hsz4);have hy4_0:w1.heap.size<w4.heap.size:=(by omega);have hy4_1:w3.heap.size<w4.heap.size:=(by omega);have hz4_0:w.heap.size<w4.heap.size:=(by omega);have hz4_1:w.heap.size+1<w4.heap.size:=(by omega);have hz4_2:w.heap.size+1+1<w4.heap.size:=(by omega);have hz4_3:w.heap.size+1+1+1<w4.heap.size:=(by omega);have hz4_4:w.heap.size+1+1+1+1<w4.heap.size:=(by omega))
     (try dsimp only)
     refine hK.out _ _ ?_ (fun hQ4=>?_)
     ·(first|exact trivial|((try dsimp only);simp [go_sem, *]))
     clear hK K hQ3
     try simp only [pS]
     refine tq 12 31 (.agg #[nA n0,nB n0,nC n0,nD m0,nE m0,nA n1,nB n1,nC n1,nD m1,nE m1,nA n2,nB n2,nC n2,nD m2,nE m2]) ?_
     refine wpAnyH_ready (rs:= [14]) (by kernel_rfl) (by simp) ?_
     refine AllReadyH.cons (o:=⟨none,_,_,_,_,_⟩) rfl (fun K hK=>?_) AllReadyH.nil
     rw [if_pos (by rfl)]
     refine wp_store_mid 261 _ _ rfl (w3.heap.size) 0 (List.toArray [nA n0,nB n0,nC n0,nD m0,nE m0,nA n1,nB n1,nC n1,nD m1,nE m1,nA n2,nB n2,nC n2,nD m2,nE m2]) rfl rfl (VB.there (cs:= [zU,zS,.bool false,zU,zS,zU,zS,.bool false,zU,zS,zU,zS,.bool false,zU,zS]) ?_) info_F3 (by first|rfl|simp [Value.oneCell']) ?_
     ·(with_reducible (repeat' (first|(refine VB.new' ?_;exact(by first|omega|(simp;done)|(simp;omega)))|apply VB.put2|apply VB.put3|apply VB.put5|refine VB.drew ?_|refine VB.far ?_ ?_ _|refine VB.alloc ?_ _|refine VB.gr ?_ HG4.out ?_|refine VB.gr ?_ HG3.out ?_|refine VB.gr ?_ HG2.out ?_|omega|(simp;done)|(simp;omega))))
     simp only [pS]
     refine hK.out _ _ ?_ (fun hQ5=>?_)
     ·have hh:=hQ4;(try dsimp only at hh ⊢);simp only [cell_sets_ne (show w.heap.size≠w3.heap.size by omega),cell_sets_ne (show w.heap.size+1≠w3.heap.size by omega),cell_sets_ne (show w.heap.size+1+1≠w3.heap.size by omega),cell_sets_ne (show w.heap.size+1+1+1≠w3.heap.size by omega)];exact hh
     clear hK K hQ4
     refine wpAnyH_done (by kernel_rfl) ?_ _
     go_wp2_with fail
     go_meet
     refine⟨_,rfl,by first|omega|(simp;done)|(simp;omega),⟨?_,?_⟩,?_,?_⟩
     ·refine VB.set (cs:= [zU,zS,.bool false,zU,zS,zU,zS,.bool false,zU,zS,zU,zS,.bool false,zU,zS]) ?_ (barP n0 n1 n2 q0 q1 q2 m0 m1 m2 d0 d1 d2 0) rfl
      (with_reducible (repeat' (first|(refine VB.new' ?_;exact(by first|omega|(simp;done)|(simp;omega)))|apply VB.put2|apply VB.put3|apply VB.put5|refine VB.drew ?_|refine VB.far ?_ ?_ _|refine VB.alloc ?_ _|refine VB.gr ?_ HG4.out ?_|refine VB.gr ?_ HG3.out ?_|refine VB.gr ?_ HG2.out ?_|omega|(simp;done)|(simp;omega))))
     ·exact Gr.sets (by omega) _ _ (by exact gcc HG4 (gcc HG3 (gcc HG2 (gcc HG1 gzz))))
     ·refine VB.fars (by omega) _ _ ?_
      exact vbc HG4 (vbc HG3 (vbc HG2 vbb))
     ·refine VB.fars (by omega) _ _ ?_
      exact vbc HG4 (vbc HG3 (vbc HG2 (vbc HG1 vbb)))
   ·go_simp
    (try dsimp only)
    refine hK.out _ _ ?_ (fun hQ2=>?_)
    ·(first|exact trivial|((try dsimp only);simp [go_sem, *]))
    clear hK K hQ1
    try simp only [pS]
    refine wpAnyH_ready (rs:= [7]) (by kernel_rfl) (by simp) ?_
    refine AllReadyH.cons rfl (fun K hK=>?_) AllReadyH.nil
    go_simp
    (refine rtt (h1.out _) fun w3 hsz3 hc3 hf3 HG3=>?_;(try simp at hsz3);have hy3_0:w1.heap.size<w3.heap.size:=(by omega);have hy3_1:w2.heap.size<w3.heap.size:=(by omega);have hz3_0:w.heap.size<w3.heap.size:=(by omega);have hz3_1:w.heap.size+1<w3.heap.size:=(by omega);have hz3_2:w.heap.size+1+1<w3.heap.size:=(by omega);have hz3_3:w.heap.size+1+1+1<w3.heap.size:=(by omega);have hz3_4:w.heap.size+1+1+1+1<w3.heap.size:=(by omega))
    (try dsimp only)
    refine hK.out _ _ ?_ (fun hQ3=>?_)
    ·(first|exact trivial|((try dsimp only);simp [go_sem, *]))
    clear hK K hQ2
    try simp only [pS]
    refine wpAnyH_ready (rs:= [11]) (by kernel_rfl) (by simp) ?_
    refine AllReadyH.cons rfl (fun K hK=>?_) AllReadyH.nil
    go_simp
    (refine rtt (h2.out _) fun w4 hsz4 hc4 hf4 HG4=>?_;(try simp at hsz4);have hy4_0:w1.heap.size<w4.heap.size:=(by omega);have hy4_1:w2.heap.size<w4.heap.size:=(by omega);have hz4_0:w.heap.size<w4.heap.size:=(by omega);have hz4_1:w.heap.size+1<w4.heap.size:=(by omega);have hz4_2:w.heap.size+1+1<w4.heap.size:=(by omega);have hz4_3:w.heap.size+1+1+1<w4.heap.size:=(by omega);have hz4_4:w.heap.size+1+1+1+1<w4.heap.size:=(by omega))
    (try dsimp only)
    refine hK.out _ _ ?_ (fun hQ4=>?_)
    ·(first|exact trivial|((try dsimp only);simp [go_sem, *]))
    clear hK K hQ3
    try simp only [pS]
    refine tq 12 31 (.agg #[nA n0,nB n0,nC n0,nD m0,nE m0,nA n1,nB n1,nC n1,nD m1,nE m1,nA n2,nB n2,nC n2,nD m2,nE m2]) ?_
    refine wpAnyH_ready (rs:= [14]) (by kernel_rfl) (by simp) ?_
    refine AllReadyH.cons (o:=⟨none,_,_,_,_,_⟩) rfl (fun K hK=>?_) AllReadyH.nil
    rw [if_pos (by rfl)]
    refine wp_store_mid 261 _ _ rfl (w2.heap.size) 0 (List.toArray [nA n0,nB n0,nC n0,nD m0,nE m0,nA n1,nB n1,nC n1,nD m1,nE m1,nA n2,nB n2,nC n2,nD m2,nE m2]) rfl rfl (VB.there (cs:= [zU,zS,.bool false,zU,zS,zU,zS,.bool false,zU,zS,zU,zS,.bool false,zU,zS]) ?_) info_F3 (by first|rfl|simp [Value.oneCell']) ?_
    ·(with_reducible (repeat' (first|(refine VB.new' ?_;exact(by first|omega|(simp;done)|(simp;omega)))|apply VB.put2|apply VB.put3|apply VB.put5|refine VB.drew ?_|refine VB.far ?_ ?_ _|refine VB.alloc ?_ _|refine VB.gr ?_ HG4.out ?_|refine VB.gr ?_ HG3.out ?_|refine VB.gr ?_ HG2.out ?_|omega|(simp;done)|(simp;omega))))
    simp only [pS]
    refine hK.out _ _ ?_ (fun hQ5=>?_)
    ·have hh:=hQ4;(try dsimp only at hh ⊢);simp only [cell_sets_ne (show w.heap.size≠w2.heap.size by omega),cell_sets_ne (show w.heap.size+1≠w2.heap.size by omega),cell_sets_ne (show w.heap.size+1+1≠w2.heap.size by omega),cell_sets_ne (show w.heap.size+1+1+1≠w2.heap.size by omega)];exact hh
    clear hK K hQ4
    refine wpAnyH_done (by kernel_rfl) ?_ _
    go_wp2_with fail
    go_meet
    refine⟨_,rfl,by first|omega|(simp;done)|(simp;omega),⟨?_,?_⟩,?_,?_⟩
    ·refine VB.set (cs:= [zU,zS,.bool false,zU,zS,zU,zS,.bool false,zU,zS,zU,zS,.bool false,zU,zS]) ?_ (barP n0 n1 n2 q0 q1 q2 m0 m1 m2 d0 d1 d2 0) rfl
     (with_reducible (repeat' (first|(refine VB.new' ?_;exact(by first|omega|(simp;done)|(simp;omega)))|apply VB.put2|apply VB.put3|apply VB.put5|refine VB.drew ?_|refine VB.far ?_ ?_ _|refine VB.alloc ?_ _|refine VB.gr ?_ HG4.out ?_|refine VB.gr ?_ HG3.out ?_|refine VB.gr ?_ HG2.out ?_|omega|(simp;done)|(simp;omega))))
    ·exact Gr.sets (by omega) _ _ (by exact gcc HG4 (gcc HG3 (gcc HG2 (gcc HG1 gzz))))
    ·refine VB.fars (by omega) _ _ ?_
     exact vbc HG4 (vbc HG3 (vbc HG2 vbb))
    ·refine VB.fars (by omega) _ _ ?_
     exact vbc HG4 (vbc HG3 (vbc HG2 (vbc HG1 vbb)))
  ·go_simp
   (try dsimp only)
   refine hK.out _ _ ?_ (fun hQ1=>?_)
   ·(first|exact trivial|((try dsimp only);simp [go_sem, *]))
   clear hK K hHeld
   try simp only [pS]
   refine wpAnyH_ready (rs:= [3]) (by kernel_rfl) (by simp) ?_
   refine AllReadyH.cons rfl (fun K hK=>?_) AllReadyH.nil
   go_simp
   (refine rtt (h0.out _) fun w2 hsz2 hc2 hf2 HG2=>?_;(try simp at hsz2);have hy2_0:w1.heap.size<w2.heap.size:=(by omega);have hy2_1:w1.heap.size+1<w2.heap.size:=(by omega);have hz2_0:w.heap.size<w2.heap.size:=(by omega);have hz2_1:w.heap.size+1<w2.heap.size:=(by omega);have hz2_2:w.heap.size+1+1<w2.heap.size:=(by omega);have hz2_3:w.heap.size+1+1+1<w2.heap.size:=(by omega);have hz2_4:w.heap.size+1+1+1+1<w2.heap.size:=(by omega))
   (try dsimp only)
   refine hK.out _ _ ?_ (fun hQ2=>?_)
   ·(first|exact trivial|((try dsimp only);simp [go_sem, *]))
   clear hK K hQ1
   try simp only [pS]
   refine wpAnyH_ready (rs:= [7]) (by kernel_rfl) (by simp) ?_
   refine AllReadyH.cons rfl (fun K hK=>?_) AllReadyH.nil
   go_simp
   (refine rtt (h1.out _) fun w3 hsz3 hc3 hf3 HG3=>?_;(try simp at hsz3);have hy3_0:w1.heap.size<w3.heap.size:=(by omega);have hy3_1:w1.heap.size+1<w3.heap.size:=(by omega);have hz3_0:w.heap.size<w3.heap.size:=(by omega);have hz3_1:w.heap.size+1<w3.heap.size:=(by omega);have hz3_2:w.heap.size+1+1<w3.heap.size:=(by omega);have hz3_3:w.heap.size+1+1+1<w3.heap.size:=(by omega);have hz3_4:w.heap.size+1+1+1+1<w3.heap.size:=(by omega))
   (try dsimp only)
   refine hK.out _ _ ?_ (fun hQ3=>?_)
   ·(first|exact trivial|((try dsimp only);simp [go_sem, *]))
   clear hK K hQ2
   try simp only [pS]
   refine wpAnyH_ready (rs:= [11]) (by kernel_rfl) (by simp) ?_
   refine AllReadyH.cons rfl (fun K hK=>?_) AllReadyH.nil
   go_simp
   (refine rtt (h2.out _) fun w4 hsz4 hc4 hf4 HG4=>?_;(try simp at hsz4);have hy4_0:w1.heap.size<w4.heap.size:=(by omega);have hy4_1:w1.heap.size+1<w4.heap.size:=(by omega);have hz4_0:w.heap.size<w4.heap.size:=(by omega);have hz4_1:w.heap.size+1<w4.heap.size:=(by omega);have hz4_2:w.heap.size+1+1<w4.heap.size:=(by omega);have hz4_3:w.heap.size+1+1+1<w4.heap.size:=(by omega);have hz4_4:w.heap.size+1+1+1+1<w4.heap.size:=(by omega))
   (try dsimp only)
   refine hK.out _ _ ?_ (fun hQ4=>?_)
   ·(first|exact trivial|((try dsimp only);simp [go_sem, *]))
   clear hK K hQ3
   try simp only [pS]
   refine tq 12 31 (.agg #[nA n0,nB n0,nC n0,nD m0,nE m0,nA n1,nB n1,nC n1,nD m1,nE m1,nA n2,nB n2,nC n2,nD m2,nE m2]) ?_
   refine wpAnyH_ready (rs:= [14]) (by kernel_rfl) (by simp) ?_
   refine AllReadyH.cons (o:=⟨none,_,_,_,_,_⟩) rfl (fun K hK=>?_) AllReadyH.nil
   rw [if_pos (by rfl)]
   refine wp_store_mid 261 _ _ rfl (w1.heap.size+1) 0 (List.toArray [nA n0,nB n0,nC n0,nD m0,nE m0,nA n1,nB n1,nC n1,nD m1,nE m1,nA n2,nB n2,nC n2,nD m2,nE m2]) rfl rfl (VB.there (cs:= [zU,zS,.bool false,zU,zS,zU,zS,.bool false,zU,zS,zU,zS,.bool false,zU,zS]) ?_) info_F3 (by first|rfl|simp [Value.oneCell']) ?_
   ·exact vbc HG4 (vbc HG3 (vbc HG2 vbb))
   simp only [pS]
   refine hK.out _ _ ?_ (fun hQ5=>?_)
   ·have hh:=hQ4;(try dsimp only at hh ⊢);simp only [cell_sets_ne (show w.heap.size≠w1.heap.size+1 by omega),cell_sets_ne (show w.heap.size+1≠w1.heap.size+1 by omega),cell_sets_ne (show w.heap.size+1+1≠w1.heap.size+1 by omega),cell_sets_ne (show w.heap.size+1+1+1≠w1.heap.size+1 by omega)];exact hh
   clear hK K hQ4
   refine wpAnyH_done (by kernel_rfl) ?_ _
   go_wp2_with fail
   go_meet
   refine⟨_,rfl,by first|omega|(simp;done)|(simp;omega),⟨?_,?_⟩,?_,?_⟩
   ·refine VB.set (cs:= [zU,zS,.bool false,zU,zS,zU,zS,.bool false,zU,zS,zU,zS,.bool false,zU,zS]) ?_ (barP n0 n1 n2 q0 q1 q2 m0 m1 m2 d0 d1 d2 0) rfl
    exact vbc HG4 (vbc HG3 (vbc HG2 vbb))
   ·exact Gr.sets (by omega) _ _ (by exact gcc HG4 (gcc HG3 (gcc HG2 (gcc HG1 gzz))))
   ·refine VB.fars (by omega) _ _ ?_
    exact vbc HG4 (vbc HG3 (vbc HG2 vbb))
   ·refine VB.fars (by omega) _ _ ?_
    exact vbc HG4 (vbc HG3 (vbc HG2 (vbc HG1 vbb)))
 case rest=>
  obtain ⟨pb,rfl,hlt,hB,hT,hZ⟩:=hcut
  have HGB:=Lh hB.gr
  have HVB:=Lh hB.v
  have HVT:=Lh hT
  have HVZ:=Lh hZ
  clear hB hT hZ hc1 hf1 HG1
  generalize w1.heap.size=tb at *
  go_wp2_with fail
  go_loopw [32] (fun s wr=> ∃k:Nat,k≤3∧s= .int .i64 k∧Hid (VB wr pb (barP n0 n1 n2 q0 q1 q2 m0 m1 m2 d0 d1 d2 k))∧Hid (VB wr tb [nA n,nB n,nC n,nD m,nE m])∧Hid (VB wr (w.heap.size+1+1+1+1) [zU,zS,.bool false,zU,zS,zU,zS,.bool false,zU,zS,zU,zS,.bool false,zU,zS])∧Hid (Gr w.heap.size w wr)) (fun s _=>3 - (intOf s).toNat)
  case atStart=>exact⟨0,by omega,rfl,HVB,HVT,HVZ,HGB⟩
  case round=>
   clear HVB HVT HVZ HGB
   obtain ⟨k,hk,rfl,HVB,HVT,HVZ,HGB⟩:=hrel
   have hwk:∀j:Nat,j<3→IntKind.i64.wrap ((j:Int)+1)=(j:Int)+1:=fun j hj=>by rw [IntKind.wrap_i64];omega
   have hszr:=HGB.out.size
   have g0:=HVB.out.lt
   have g1:=HVT.out.lt
   have g2:=HVZ.out.lt
   have e0:¬pb=tb:=by omega
   have e1:¬pb=w.heap.size+1+1+1+1:=by omega
   have e2:¬tb=pb:=by omega
   have e3:¬w.heap.size+1+1+1+1=pb:=by omega
   obtain ⟨t0,t1,t2,t3,t4,_,_,_,_,_⟩:=HVT.out.five
   rcases(show k=0∨k=1∨k=2∨k=3 by omega)with rfl|rfl|rfl|rfl
   ·simp only [show((0:Nat):Int)=0 from rfl]
    have p0:=(show VB wr pb [nA n0,nB n0,nC n0,nD m0,nE m0,nA n1,nB n1,nC n1,nD m1,nE m1,nA n2,nB n2,nC n2,nD m2,nE m2]from HVB.out).c 0 _ rfl
    have p1:=(show VB wr pb [nA n0,nB n0,nC n0,nD m0,nE m0,nA n1,nB n1,nC n1,nD m1,nE m1,nA n2,nB n2,nC n2,nD m2,nE m2]from HVB.out).c 1 _ rfl
    have p2:=(show VB wr pb [nA n0,nB n0,nC n0,nD m0,nE m0,nA n1,nB n1,nC n1,nD m1,nE m1,nA n2,nB n2,nC n2,nD m2,nE m2]from HVB.out).c 2 _ rfl
    have p3:=(show VB wr pb [nA n0,nB n0,nC n0,nD m0,nE m0,nA n1,nB n1,nC n1,nD m1,nE m1,nA n2,nB n2,nC n2,nD m2,nE m2]from HVB.out).c 3 _ rfl
    have p4:=(show VB wr pb [nA n0,nB n0,nC n0,nD m0,nE m0,nA n1,nB n1,nC n1,nD m1,nE m1,nA n2,nB n2,nC n2,nD m2,nE m2]from HVB.out).c 4 _ rfl
    have hw1:=hwk 0 (by omega)
    simp only [show((0:Nat):Int)=0 from rfl,Int.reduceAdd]at hw1
    go_upto_region 6 with fail
    go_cut [13,14] (fun v u wx=> ∃g,v= .pointer (some ⟨g,0,none⟩)∧u= .int .i64 0∧wr.heap.size≤g∧BarS wr wx g [nA q0,nB q0,nC q0,nD d0,nE d0])
    case first=>
     refine wp_region_held_drew (S:=(fun w'=>w'.cell? ⟨pb,0,none⟩=some (nA n0)∧w'.cell? ⟨pb,1,none⟩=some (nB n0)∧w'.cell? ⟨pb,2,none⟩=some (nC n0)∧w'.cell? ⟨pb,3,none⟩=some (nD m0)∧w'.cell? ⟨pb,4,none⟩=some (nE m0)∧w'.cell? ⟨tb,0,none⟩=some (nA n)∧w'.cell? ⟨tb,1,none⟩=some (nB n)∧w'.cell? ⟨tb,2,none⟩=some (nC n)∧w'.cell? ⟨tb,3,none⟩=some (nD m)∧w'.cell? ⟨tb,4,none⟩=some (nE m))) (by kernel_rfl) ?_ (fun hHeld=>?_)
     ·simp [go_sem, *]
     refine tq 0 36 (.int .i64 0) ?_
     refine tq 1 37 (.pointer (some ⟨pb,0,none⟩)) ?_
     refine tq 2 38 (.agg #[nA n0,nB n0,nC n0,nD m0,nE m0]) ?_
     refine tq 3 39 (.agg #[nA n,nB n,nC n,nD m,nE m]) ?_
     refine rdZ 4 8 (fun K hK=>?_) (fun K hK=>?_)
     ·go_simp
      (refine rtt (hd0.out _) fun w2 hsz2 hc2 hf2 HG2=>?_;(try simp at hsz2);have hy2_0:pb<w2.heap.size:=(by omega);have hy2_1:tb<w2.heap.size:=(by omega))
      refine kO hK fun hQ1=>?_
      clear hK K hHeld
      refine tq 5 35 (.tuple #[.agg #[nA q0,nB q0,nC q0,nD d0,nE d0],.int .i64 0]) ?_
      refine tq 6 41 (.agg #[nA q0,nB q0,nC q0,nD d0,nE d0]) ?_
      refine tq 7 42 (.int .i64 0) ?_
      refine rd 8 (fun K hK=>?_)
      go_simp
      refine kO hK fun hQ2=>?_
      clear hK K hQ1
      have f0:¬pb=w2.heap.size:=by omega
      have f1:¬tb=w2.heap.size:=by omega
      refine rd 9 (fun K hK=>?_)
      go_simp
      refine kO hK fun hQ3=>?_
      clear hK K hQ2
      refine tq 10 14 (.int .i64 0) ?_
      refine wpAnyH_done (by kernel_rfl) ?_ _
      go_wp2_with fail
      go_meet
      refine⟨w2.heap.size,rfl,rfl,by first|omega|(simp;done)|(simp;omega),⟨?_,?_⟩⟩
      ·(with_reducible (repeat' (first|(refine VB.new' ?_;exact(by first|omega|(simp;done)|(simp;omega)))|apply VB.put2|apply VB.put3|apply VB.put5|refine VB.drew ?_|refine VB.far ?_ ?_ _|refine VB.alloc ?_ _|refine VB.gr ?_ HG2.out ?_|omega|(simp;done)|(simp;omega))))
      ·exact gcc HG2 gzz
     ·go_simp
      refine kO hK fun hQ1=>?_
      clear hK K hHeld
      have k0:pb<wr.heap.size+1:=by omega
      have k1:tb<wr.heap.size+1:=by omega
      refine wpAnyH_ready (rs:= [4]) (by kernel_rfl) (by simp) ?_
      refine AllReadyH.cons rfl (fun K hK=>?_) AllReadyH.nil
      go_simp
      (refine rtt (hd0.out _) fun w2 hsz2 hc2 hf2 HG2=>?_;(try simp at hsz2);have hy2_0:pb<w2.heap.size:=(by omega);have hy2_1:tb<w2.heap.size:=(by omega);have hy2_2:wr.heap.size<w2.heap.size:=(by omega))
      refine kO hK fun hQ2=>?_
      clear hK K hQ1
      refine tq 5 35 (.tuple #[.agg #[nA q0,nB q0,nC q0,nD d0,nE d0],.int .i64 0]) ?_
      refine tq 6 41 (.agg #[nA q0,nB q0,nC q0,nD d0,nE d0]) ?_
      refine tq 7 42 (.int .i64 0) ?_
      have f0:¬pb=wr.heap.size:=by omega
      have f1:¬tb=wr.heap.size:=by omega
      refine rd 9 (fun K hK=>?_)
      go_simp
      refine kO hK fun hQ3=>?_
      clear hK K hQ2
      refine tq 10 14 (.int .i64 0) ?_
      refine wpAnyH_done (by kernel_rfl) ?_ _
      go_wp2_with fail
      go_meet
      refine⟨wr.heap.size,rfl,rfl,by first|omega|(simp;done)|(simp;omega),⟨?_,?_⟩⟩
      ·(with_reducible (repeat' (first|(refine VB.new' ?_;exact(by first|omega|(simp;done)|(simp;omega)))|apply VB.put2|apply VB.put3|apply VB.put5|refine VB.drew ?_|refine VB.far ?_ ?_ _|refine VB.alloc ?_ _|refine VB.gr ?_ HG2.out ?_|omega|(simp;done)|(simp;omega))))
      ·exact gcc HG2 gzz
    case rest=>
     obtain ⟨g,rfl,rfl,hgl,hB⟩:=hcut
     obtain ⟨s0,s1,s2,s3,s4,_,_,_,_,_⟩:=hB.v.five
     have HGX:=Lh hB.gr
     have hszx:=hB.gr.size
     have hvx:=hB.v.lt
     have HP:=Lh (HVB.out.gr hB.gr g0)
     have HT:=Lh (HVT.out.gr hB.gr g1)
     have HZ:=Lh (HVZ.out.gr hB.gr g2)
     have HX:=Lh hB.v
     clear hB
     have x0:=(show VB _ pb [nA n0,nB n0,nC n0,nD m0,nE m0,nA n1,nB n1,nC n1,nD m1,nE m1,nA n2,nB n2,nC n2,nD m2,nE m2]from HP.out).c 0 _ rfl
     have y0:=(show VB _ pb [nA n0,nB n0,nC n0,nD m0,nE m0,nA n1,nB n1,nC n1,nD m1,nE m1,nA n2,nB n2,nC n2,nD m2,nE m2]from HP.out).f 0 (by simp)
     have x1:=(show VB _ pb [nA n0,nB n0,nC n0,nD m0,nE m0,nA n1,nB n1,nC n1,nD m1,nE m1,nA n2,nB n2,nC n2,nD m2,nE m2]from HP.out).c 1 _ rfl
     have y1:=(show VB _ pb [nA n0,nB n0,nC n0,nD m0,nE m0,nA n1,nB n1,nC n1,nD m1,nE m1,nA n2,nB n2,nC n2,nD m2,nE m2]from HP.out).f 1 (by simp)
     have x2:=(show VB _ pb [nA n0,nB n0,nC n0,nD m0,nE m0,nA n1,nB n1,nC n1,nD m1,nE m1,nA n2,nB n2,nC n2,nD m2,nE m2]from HP.out).c 2 _ rfl
     have y2:=(show VB _ pb [nA n0,nB n0,nC n0,nD m0,nE m0,nA n1,nB n1,nC n1,nD m1,nE m1,nA n2,nB n2,nC n2,nD m2,nE m2]from HP.out).f 2 (by simp)
     have x3:=(show VB _ pb [nA n0,nB n0,nC n0,nD m0,nE m0,nA n1,nB n1,nC n1,nD m1,nE m1,nA n2,nB n2,nC n2,nD m2,nE m2]from HP.out).c 3 _ rfl
     have y3:=(show VB _ pb [nA n0,nB n0,nC n0,nD m0,nE m0,nA n1,nB n1,nC n1,nD m1,nE m1,nA n2,nB n2,nC n2,nD m2,nE m2]from HP.out).f 3 (by simp)
     have x4:=(show VB _ pb [nA n0,nB n0,nC n0,nD m0,nE m0,nA n1,nB n1,nC n1,nD m1,nE m1,nA n2,nB n2,nC n2,nD m2,nE m2]from HP.out).c 4 _ rfl
     have y4:=(show VB _ pb [nA n0,nB n0,nC n0,nD m0,nE m0,nA n1,nB n1,nC n1,nD m1,nE m1,nA n2,nB n2,nC n2,nD m2,nE m2]from HP.out).f 4 (by simp)
     go_wp2_with fail
     go_roundw
     case rel=>
      refine⟨1,by omega,by go_num,Lh ?_,Lh ?_,Lh ?_,Lh ?_⟩
      ·exact VB.part (cs:= [nA n0,nB n0,nC n0,nD m0,nE m0,nA n1,nB n1,nC n1,nD m1,nE m1,nA n2,nB n2,nC n2,nD m2,nE m2]) 0 [nA q0,nB q0,nC q0,nD d0,nE d0] HP.out rfl (by simp)
      ·exact VB.fars (by omega) [nA q0,nB q0,nC q0,nD d0,nE d0] 0 HT.out
      ·exact VB.fars (by omega) [nA q0,nB q0,nC q0,nD d0,nE d0] 0 HZ.out
      ·exact Gr.sets (by omega) [nA q0,nB q0,nC q0,nD d0,nE d0] 0 (HGB.out.trans (HGX.out.mono (by omega)))
     case measure=>simp [intOf]
   ·simp only [show((1:Nat):Int)=1 from rfl]
    have p0:=(show VB wr pb [nA q0,nB q0,nC q0,nD d0,nE d0,nA n1,nB n1,nC n1,nD m1,nE m1,nA n2,nB n2,nC n2,nD m2,nE m2]from HVB.out).c 5 _ rfl
    have p1:=(show VB wr pb [nA q0,nB q0,nC q0,nD d0,nE d0,nA n1,nB n1,nC n1,nD m1,nE m1,nA n2,nB n2,nC n2,nD m2,nE m2]from HVB.out).c 6 _ rfl
    have p2:=(show VB wr pb [nA q0,nB q0,nC q0,nD d0,nE d0,nA n1,nB n1,nC n1,nD m1,nE m1,nA n2,nB n2,nC n2,nD m2,nE m2]from HVB.out).c 7 _ rfl
    have p3:=(show VB wr pb [nA q0,nB q0,nC q0,nD d0,nE d0,nA n1,nB n1,nC n1,nD m1,nE m1,nA n2,nB n2,nC n2,nD m2,nE m2]from HVB.out).c 8 _ rfl
    have p4:=(show VB wr pb [nA q0,nB q0,nC q0,nD d0,nE d0,nA n1,nB n1,nC n1,nD m1,nE m1,nA n2,nB n2,nC n2,nD m2,nE m2]from HVB.out).c 9 _ rfl
    have hw1:=hwk 1 (by omega)
    simp only [show((1:Nat):Int)=1 from rfl,Int.reduceAdd]at hw1
    go_upto_region 6 with fail
    go_cut [13,14] (fun v u wx=> ∃g,v= .pointer (some ⟨g,0,none⟩)∧u= .int .i64 0∧wr.heap.size≤g∧BarS wr wx g [nA q1,nB q1,nC q1,nD d1,nE d1])
    case first=>
     refine wp_region_held_drew (S:=(fun w'=>w'.cell? ⟨pb,5,none⟩=some (nA n1)∧w'.cell? ⟨pb,6,none⟩=some (nB n1)∧w'.cell? ⟨pb,7,none⟩=some (nC n1)∧w'.cell? ⟨pb,8,none⟩=some (nD m1)∧w'.cell? ⟨pb,9,none⟩=some (nE m1)∧w'.cell? ⟨tb,0,none⟩=some (nA n)∧w'.cell? ⟨tb,1,none⟩=some (nB n)∧w'.cell? ⟨tb,2,none⟩=some (nC n)∧w'.cell? ⟨tb,3,none⟩=some (nD m)∧w'.cell? ⟨tb,4,none⟩=some (nE m))) (by kernel_rfl) ?_ (fun hHeld=>?_)
     ·simp [go_sem, *]
     refine tq 0 36 (.int .i64 1) ?_
     refine tq 1 37 (.pointer (some ⟨pb,5,none⟩)) ?_
     refine tq 2 38 (.agg #[nA n1,nB n1,nC n1,nD m1,nE m1]) ?_
     refine tq 3 39 (.agg #[nA n,nB n,nC n,nD m,nE m]) ?_
     refine rdZ 4 8 (fun K hK=>?_) (fun K hK=>?_)
     ·go_simp
      (refine rtt (hd1.out _) fun w2 hsz2 hc2 hf2 HG2=>?_;(try simp at hsz2);have hy2_0:pb<w2.heap.size:=(by omega);have hy2_1:tb<w2.heap.size:=(by omega))
      refine kO hK fun hQ1=>?_
      clear hK K hHeld
      refine tq 5 35 (.tuple #[.agg #[nA q1,nB q1,nC q1,nD d1,nE d1],.int .i64 0]) ?_
      refine tq 6 41 (.agg #[nA q1,nB q1,nC q1,nD d1,nE d1]) ?_
      refine tq 7 42 (.int .i64 0) ?_
      refine rd 8 (fun K hK=>?_)
      go_simp
      refine kO hK fun hQ2=>?_
      clear hK K hQ1
      have f0:¬pb=w2.heap.size:=by omega
      have f1:¬tb=w2.heap.size:=by omega
      refine rd 9 (fun K hK=>?_)
      go_simp
      refine kO hK fun hQ3=>?_
      clear hK K hQ2
      refine tq 10 14 (.int .i64 0) ?_
      refine wpAnyH_done (by kernel_rfl) ?_ _
      go_wp2_with fail
      go_meet
      refine⟨w2.heap.size,rfl,rfl,by first|omega|(simp;done)|(simp;omega),⟨?_,?_⟩⟩
      ·(with_reducible (repeat' (first|(refine VB.new' ?_;exact(by first|omega|(simp;done)|(simp;omega)))|apply VB.put2|apply VB.put3|apply VB.put5|refine VB.drew ?_|refine VB.far ?_ ?_ _|refine VB.alloc ?_ _|refine VB.gr ?_ HG2.out ?_|omega|(simp;done)|(simp;omega))))
      ·exact gcc HG2 gzz
     ·go_simp
      refine kO hK fun hQ1=>?_
      clear hK K hHeld
      have k0:pb<wr.heap.size+1:=by omega
      have k1:tb<wr.heap.size+1:=by omega
      refine wpAnyH_ready (rs:= [4]) (by kernel_rfl) (by simp) ?_
      refine AllReadyH.cons rfl (fun K hK=>?_) AllReadyH.nil
      go_simp
      (refine rtt (hd1.out _) fun w2 hsz2 hc2 hf2 HG2=>?_;(try simp at hsz2);have hy2_0:pb<w2.heap.size:=(by omega);have hy2_1:tb<w2.heap.size:=(by omega);have hy2_2:wr.heap.size<w2.heap.size:=(by omega))
      refine kO hK fun hQ2=>?_
      clear hK K hQ1
      refine tq 5 35 (.tuple #[.agg #[nA q1,nB q1,nC q1,nD d1,nE d1],.int .i64 0]) ?_
      refine tq 6 41 (.agg #[nA q1,nB q1,nC q1,nD d1,nE d1]) ?_
      refine tq 7 42 (.int .i64 0) ?_
      have f0:¬pb=wr.heap.size:=by omega
      have f1:¬tb=wr.heap.size:=by omega
      refine rd 9 (fun K hK=>?_)
      go_simp
      refine kO hK fun hQ3=>?_
      clear hK K hQ2
      refine tq 10 14 (.int .i64 0) ?_
      refine wpAnyH_done (by kernel_rfl) ?_ _
      go_wp2_with fail
      go_meet
      refine⟨wr.heap.size,rfl,rfl,by first|omega|(simp;done)|(simp;omega),⟨?_,?_⟩⟩
      ·(with_reducible (repeat' (first|(refine VB.new' ?_;exact(by first|omega|(simp;done)|(simp;omega)))|apply VB.put2|apply VB.put3|apply VB.put5|refine VB.drew ?_|refine VB.far ?_ ?_ _|refine VB.alloc ?_ _|refine VB.gr ?_ HG2.out ?_|omega|(simp;done)|(simp;omega))))
      ·exact gcc HG2 gzz
    case rest=>
     obtain ⟨g,rfl,rfl,hgl,hB⟩:=hcut
     obtain ⟨s0,s1,s2,s3,s4,_,_,_,_,_⟩:=hB.v.five
     have HGX:=Lh hB.gr
     have hszx:=hB.gr.size
     have hvx:=hB.v.lt
     have HP:=Lh (HVB.out.gr hB.gr g0)
     have HT:=Lh (HVT.out.gr hB.gr g1)
     have HZ:=Lh (HVZ.out.gr hB.gr g2)
     have HX:=Lh hB.v
     clear hB
     have x0:=(show VB _ pb [nA q0,nB q0,nC q0,nD d0,nE d0,nA n1,nB n1,nC n1,nD m1,nE m1,nA n2,nB n2,nC n2,nD m2,nE m2]from HP.out).c 5 _ rfl
     have y0:=(show VB _ pb [nA q0,nB q0,nC q0,nD d0,nE d0,nA n1,nB n1,nC n1,nD m1,nE m1,nA n2,nB n2,nC n2,nD m2,nE m2]from HP.out).f 5 (by simp)
     have x1:=(show VB _ pb [nA q0,nB q0,nC q0,nD d0,nE d0,nA n1,nB n1,nC n1,nD m1,nE m1,nA n2,nB n2,nC n2,nD m2,nE m2]from HP.out).c 6 _ rfl
     have y1:=(show VB _ pb [nA q0,nB q0,nC q0,nD d0,nE d0,nA n1,nB n1,nC n1,nD m1,nE m1,nA n2,nB n2,nC n2,nD m2,nE m2]from HP.out).f 6 (by simp)
     have x2:=(show VB _ pb [nA q0,nB q0,nC q0,nD d0,nE d0,nA n1,nB n1,nC n1,nD m1,nE m1,nA n2,nB n2,nC n2,nD m2,nE m2]from HP.out).c 7 _ rfl
     have y2:=(show VB _ pb [nA q0,nB q0,nC q0,nD d0,nE d0,nA n1,nB n1,nC n1,nD m1,nE m1,nA n2,nB n2,nC n2,nD m2,nE m2]from HP.out).f 7 (by simp)
     have x3:=(show VB _ pb [nA q0,nB q0,nC q0,nD d0,nE d0,nA n1,nB n1,nC n1,nD m1,nE m1,nA n2,nB n2,nC n2,nD m2,nE m2]from HP.out).c 8 _ rfl
     have y3:=(show VB _ pb [nA q0,nB q0,nC q0,nD d0,nE d0,nA n1,nB n1,nC n1,nD m1,nE m1,nA n2,nB n2,nC n2,nD m2,nE m2]from HP.out).f 8 (by simp)
     have x4:=(show VB _ pb [nA q0,nB q0,nC q0,nD d0,nE d0,nA n1,nB n1,nC n1,nD m1,nE m1,nA n2,nB n2,nC n2,nD m2,nE m2]from HP.out).c 9 _ rfl
     have y4:=(show VB _ pb [nA q0,nB q0,nC q0,nD d0,nE d0,nA n1,nB n1,nC n1,nD m1,nE m1,nA n2,nB n2,nC n2,nD m2,nE m2]from HP.out).f 9 (by simp)
     go_wp2_with fail
     go_roundw
     case rel=>
      refine⟨2,by omega,by go_num,Lh ?_,Lh ?_,Lh ?_,Lh ?_⟩
      ·exact VB.part (cs:= [nA q0,nB q0,nC q0,nD d0,nE d0,nA n1,nB n1,nC n1,nD m1,nE m1,nA n2,nB n2,nC n2,nD m2,nE m2]) 5 [nA q1,nB q1,nC q1,nD d1,nE d1] HP.out rfl (by simp)
      ·exact VB.fars (by omega) [nA q1,nB q1,nC q1,nD d1,nE d1] 5 HT.out
      ·exact VB.fars (by omega) [nA q1,nB q1,nC q1,nD d1,nE d1] 5 HZ.out
      ·exact Gr.sets (by omega) [nA q1,nB q1,nC q1,nD d1,nE d1] 5 (HGB.out.trans (HGX.out.mono (by omega)))
     case measure=>simp [intOf]
   ·simp only [show((2:Nat):Int)=2 from rfl]
    have p0:=(show VB wr pb [nA q0,nB q0,nC q0,nD d0,nE d0,nA q1,nB q1,nC q1,nD d1,nE d1,nA n2,nB n2,nC n2,nD m2,nE m2]from HVB.out).c 10 _ rfl
    have p1:=(show VB wr pb [nA q0,nB q0,nC q0,nD d0,nE d0,nA q1,nB q1,nC q1,nD d1,nE d1,nA n2,nB n2,nC n2,nD m2,nE m2]from HVB.out).c 11 _ rfl
    have p2:=(show VB wr pb [nA q0,nB q0,nC q0,nD d0,nE d0,nA q1,nB q1,nC q1,nD d1,nE d1,nA n2,nB n2,nC n2,nD m2,nE m2]from HVB.out).c 12 _ rfl
    have p3:=(show VB wr pb [nA q0,nB q0,nC q0,nD d0,nE d0,nA q1,nB q1,nC q1,nD d1,nE d1,nA n2,nB n2,nC n2,nD m2,nE m2]from HVB.out).c 13 _ rfl
    have p4:=(show VB wr pb [nA q0,nB q0,nC q0,nD d0,nE d0,nA q1,nB q1,nC q1,nD d1,nE d1,nA n2,nB n2,nC n2,nD m2,nE m2]from HVB.out).c 14 _ rfl
    have hw1:=hwk 2 (by omega)
    simp only [show((2:Nat):Int)=2 from rfl,Int.reduceAdd]at hw1
    go_upto_region 6 with fail
    go_cut [13,14] (fun v u wx=> ∃g,v= .pointer (some ⟨g,0,none⟩)∧u= .int .i64 0∧wr.heap.size≤g∧BarS wr wx g [nA q2,nB q2,nC q2,nD d2,nE d2])
    case first=>
     refine wp_region_held_drew (S:=(fun w'=>w'.cell? ⟨pb,10,none⟩=some (nA n2)∧w'.cell? ⟨pb,11,none⟩=some (nB n2)∧w'.cell? ⟨pb,12,none⟩=some (nC n2)∧w'.cell? ⟨pb,13,none⟩=some (nD m2)∧w'.cell? ⟨pb,14,none⟩=some (nE m2)∧w'.cell? ⟨tb,0,none⟩=some (nA n)∧w'.cell? ⟨tb,1,none⟩=some (nB n)∧w'.cell? ⟨tb,2,none⟩=some (nC n)∧w'.cell? ⟨tb,3,none⟩=some (nD m)∧w'.cell? ⟨tb,4,none⟩=some (nE m))) (by kernel_rfl) ?_ (fun hHeld=>?_)
     ·simp [go_sem, *]
     refine tq 0 36 (.int .i64 2) ?_
     refine tq 1 37 (.pointer (some ⟨pb,10,none⟩)) ?_
     refine tq 2 38 (.agg #[nA n2,nB n2,nC n2,nD m2,nE m2]) ?_
     refine tq 3 39 (.agg #[nA n,nB n,nC n,nD m,nE m]) ?_
     refine rdZ 4 8 (fun K hK=>?_) (fun K hK=>?_)
     ·go_simp
      (refine rtt (hd2.out _) fun w2 hsz2 hc2 hf2 HG2=>?_;(try simp at hsz2);have hy2_0:pb<w2.heap.size:=(by omega);have hy2_1:tb<w2.heap.size:=(by omega))
      refine kO hK fun hQ1=>?_
      clear hK K hHeld
      refine tq 5 35 (.tuple #[.agg #[nA q2,nB q2,nC q2,nD d2,nE d2],.int .i64 0]) ?_
      refine tq 6 41 (.agg #[nA q2,nB q2,nC q2,nD d2,nE d2]) ?_
      refine tq 7 42 (.int .i64 0) ?_
      refine rd 8 (fun K hK=>?_)
      go_simp
      refine kO hK fun hQ2=>?_
      clear hK K hQ1
      have f0:¬pb=w2.heap.size:=by omega
      have f1:¬tb=w2.heap.size:=by omega
      refine rd 9 (fun K hK=>?_)
      go_simp
      refine kO hK fun hQ3=>?_
      clear hK K hQ2
      refine tq 10 14 (.int .i64 0) ?_
      refine wpAnyH_done (by kernel_rfl) ?_ _
      go_wp2_with fail
      go_meet
      refine⟨w2.heap.size,rfl,rfl,by first|omega|(simp;done)|(simp;omega),⟨?_,?_⟩⟩
      ·(with_reducible (repeat' (first|(refine VB.new' ?_;exact(by first|omega|(simp;done)|(simp;omega)))|apply VB.put2|apply VB.put3|apply VB.put5|refine VB.drew ?_|refine VB.far ?_ ?_ _|refine VB.alloc ?_ _|refine VB.gr ?_ HG2.out ?_|omega|(simp;done)|(simp;omega))))
      ·exact gcc HG2 gzz
     ·go_simp
      refine kO hK fun hQ1=>?_
      clear hK K hHeld
      have k0:pb<wr.heap.size+1:=by omega
      have k1:tb<wr.heap.size+1:=by omega
      refine wpAnyH_ready (rs:= [4]) (by kernel_rfl) (by simp) ?_
      refine AllReadyH.cons rfl (fun K hK=>?_) AllReadyH.nil
      go_simp
      (refine rtt (hd2.out _) fun w2 hsz2 hc2 hf2 HG2=>?_;(try simp at hsz2);have hy2_0:pb<w2.heap.size:=(by omega);have hy2_1:tb<w2.heap.size:=(by omega);have hy2_2:wr.heap.size<w2.heap.size:=(by omega))
      refine kO hK fun hQ2=>?_
      clear hK K hQ1
      refine tq 5 35 (.tuple #[.agg #[nA q2,nB q2,nC q2,nD d2,nE d2],.int .i64 0]) ?_
      refine tq 6 41 (.agg #[nA q2,nB q2,nC q2,nD d2,nE d2]) ?_
      refine tq 7 42 (.int .i64 0) ?_
      have f0:¬pb=wr.heap.size:=by omega
      have f1:¬tb=wr.heap.size:=by omega
      refine rd 9 (fun K hK=>?_)
      go_simp
      refine kO hK fun hQ3=>?_
      clear hK K hQ2
      refine tq 10 14 (.int .i64 0) ?_
      refine wpAnyH_done (by kernel_rfl) ?_ _
      go_wp2_with fail
      go_meet
      refine⟨wr.heap.size,rfl,rfl,by first|omega|(simp;done)|(simp;omega),⟨?_,?_⟩⟩
      ·(with_reducible (repeat' (first|(refine VB.new' ?_;exact(by first|omega|(simp;done)|(simp;omega)))|apply VB.put2|apply VB.put3|apply VB.put5|refine VB.drew ?_|refine VB.far ?_ ?_ _|refine VB.alloc ?_ _|refine VB.gr ?_ HG2.out ?_|omega|(simp;done)|(simp;omega))))
      ·exact gcc HG2 gzz
    case rest=>
     obtain ⟨g,rfl,rfl,hgl,hB⟩:=hcut
     obtain ⟨s0,s1,s2,s3,s4,_,_,_,_,_⟩:=hB.v.five
     have HGX:=Lh hB.gr
     have hszx:=hB.gr.size
     have hvx:=hB.v.lt
     have HP:=Lh (HVB.out.gr hB.gr g0)
     have HT:=Lh (HVT.out.gr hB.gr g1)
     have HZ:=Lh (HVZ.out.gr hB.gr g2)
     have HX:=Lh hB.v
     clear hB
     have x0:=(show VB _ pb [nA q0,nB q0,nC q0,nD d0,nE d0,nA q1,nB q1,nC q1,nD d1,nE d1,nA n2,nB n2,nC n2,nD m2,nE m2]from HP.out).c 10 _ rfl
     have y0:=(show VB _ pb [nA q0,nB q0,nC q0,nD d0,nE d0,nA q1,nB q1,nC q1,nD d1,nE d1,nA n2,nB n2,nC n2,nD m2,nE m2]from HP.out).f 10 (by simp)
     have x1:=(show VB _ pb [nA q0,nB q0,nC q0,nD d0,nE d0,nA q1,nB q1,nC q1,nD d1,nE d1,nA n2,nB n2,nC n2,nD m2,nE m2]from HP.out).c 11 _ rfl
     have y1:=(show VB _ pb [nA q0,nB q0,nC q0,nD d0,nE d0,nA q1,nB q1,nC q1,nD d1,nE d1,nA n2,nB n2,nC n2,nD m2,nE m2]from HP.out).f 11 (by simp)
     have x2:=(show VB _ pb [nA q0,nB q0,nC q0,nD d0,nE d0,nA q1,nB q1,nC q1,nD d1,nE d1,nA n2,nB n2,nC n2,nD m2,nE m2]from HP.out).c 12 _ rfl
     have y2:=(show VB _ pb [nA q0,nB q0,nC q0,nD d0,nE d0,nA q1,nB q1,nC q1,nD d1,nE d1,nA n2,nB n2,nC n2,nD m2,nE m2]from HP.out).f 12 (by simp)
     have x3:=(show VB _ pb [nA q0,nB q0,nC q0,nD d0,nE d0,nA q1,nB q1,nC q1,nD d1,nE d1,nA n2,nB n2,nC n2,nD m2,nE m2]from HP.out).c 13 _ rfl
     have y3:=(show VB _ pb [nA q0,nB q0,nC q0,nD d0,nE d0,nA q1,nB q1,nC q1,nD d1,nE d1,nA n2,nB n2,nC n2,nD m2,nE m2]from HP.out).f 13 (by simp)
     have x4:=(show VB _ pb [nA q0,nB q0,nC q0,nD d0,nE d0,nA q1,nB q1,nC q1,nD d1,nE d1,nA n2,nB n2,nC n2,nD m2,nE m2]from HP.out).c 14 _ rfl
     have y4:=(show VB _ pb [nA q0,nB q0,nC q0,nD d0,nE d0,nA q1,nB q1,nC q1,nD d1,nE d1,nA n2,nB n2,nC n2,nD m2,nE m2]from HP.out).f 14 (by simp)
     go_wp2_with fail
     go_roundw
     case rel=>
      refine⟨3,by omega,by go_num,Lh ?_,Lh ?_,Lh ?_,Lh ?_⟩
      ·exact VB.part (cs:= [nA q0,nB q0,nC q0,nD d0,nE d0,nA q1,nB q1,nC q1,nD d1,nE d1,nA n2,nB n2,nC n2,nD m2,nE m2]) 10 [nA q2,nB q2,nC q2,nD d2,nE d2] HP.out rfl (by simp)
      ·exact VB.fars (by omega) [nA q2,nB q2,nC q2,nD d2,nE d2] 10 HT.out
      ·exact VB.fars (by omega) [nA q2,nB q2,nC q2,nD d2,nE d2] 10 HZ.out
      ·exact Gr.sets (by omega) [nA q2,nB q2,nC q2,nD d2,nE d2] 10 (HGB.out.trans (HGX.out.mono (by omega)))
     case measure=>simp [intOf]
   ·simp only [show((3:Nat):Int)=3 from rfl]
    have HP:=Lh (show VB wr pb [nA q0,nB q0,nC q0,nD d0,nE d0,nA q1,nB q1,nC q1,nD d1,nE d1,nA q2,nB q2,nC q2,nD d2,nE d2]from HVB.out)
    have p0:=HP.out.c 0 _ rfl
    have p1:=HP.out.c 1 _ rfl
    have p2:=HP.out.c 2 _ rfl
    have p3:=HP.out.c 3 _ rfl
    have p4:=HP.out.c 4 _ rfl
    have p5:=HP.out.c 5 _ rfl
    have p6:=HP.out.c 6 _ rfl
    have p7:=HP.out.c 7 _ rfl
    have p8:=HP.out.c 8 _ rfl
    have p9:=HP.out.c 9 _ rfl
    have p10:=HP.out.c 10 _ rfl
    have p11:=HP.out.c 11 _ rfl
    have p12:=HP.out.c 12 _ rfl
    have p13:=HP.out.c 13 _ rfl
    have p14:=HP.out.c 14 _ rfl
    have z0:=HVZ.out.c 0 _ rfl
    have y0:=HVZ.out.f 0 (by simp)
    have z1:=HVZ.out.c 1 _ rfl
    have y1:=HVZ.out.f 1 (by simp)
    have z2:=HVZ.out.c 2 _ rfl
    have y2:=HVZ.out.f 2 (by simp)
    have z3:=HVZ.out.c 3 _ rfl
    have y3:=HVZ.out.f 3 (by simp)
    have z4:=HVZ.out.c 4 _ rfl
    have y4:=HVZ.out.f 4 (by simp)
    have z5:=HVZ.out.c 5 _ rfl
    have y5:=HVZ.out.f 5 (by simp)
    have z6:=HVZ.out.c 6 _ rfl
    have y6:=HVZ.out.f 6 (by simp)
    have z7:=HVZ.out.c 7 _ rfl
    have y7:=HVZ.out.f 7 (by simp)
    have z8:=HVZ.out.c 8 _ rfl
    have y8:=HVZ.out.f 8 (by simp)
    have z9:=HVZ.out.c 9 _ rfl
    have y9:=HVZ.out.f 9 (by simp)
    have z10:=HVZ.out.c 10 _ rfl
    have y10:=HVZ.out.f 10 (by simp)
    have z11:=HVZ.out.c 11 _ rfl
    have y11:=HVZ.out.f 11 (by simp)
    have z12:=HVZ.out.c 12 _ rfl
    have y12:=HVZ.out.f 12 (by simp)
    have z13:=HVZ.out.c 13 _ rfl
    have y13:=HVZ.out.f 13 (by simp)
    have z14:=HVZ.out.c 14 _ rfl
    have y14:=HVZ.out.f 14 (by simp)
    go_wp2
    refine ret_row2 (g:=w.heap.size+1+1+1+1) Tryz.results183 rfl rfl (VB.set (cs:= [zU,zS,.bool false,zU,zS,zU,zS,.bool false,zU,zS,zU,zS,.bool false,zU,zS]) HVZ.out [nA q0,nB q0,nC q0,nD d0,nE d0,nA q1,nB q1,nC q1,nD d1,nE d1,nA q2,nB q2,nC q2,nD d2,nE d2] rfl) Tryz.underlying261 rfl info_F3 rfl ⟨rfl,?_⟩
    exact Gr.sets (by omega) [nA q0,nB q0,nC q0,nD d0,nE d0,nA q1,nB q1,nC q1,nD d1,nE d1,nA q2,nB q2,nC q2,nD d2,nE d2] 0 HGB.out
end Go.Proofs.YtfgmdhjmgdccdaaGreat
