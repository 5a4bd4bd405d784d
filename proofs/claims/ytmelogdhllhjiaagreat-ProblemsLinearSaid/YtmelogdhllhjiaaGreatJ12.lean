/-
  Part 12 of the proof: ProbA.
-/
import Derived.Test.YtmelogdhllhjiaaGreatJ11
set_option linter.unusedSimpArgs false
set_option linter.unusedVariables false
namespace Go.Proofs.YtmelogdhllhjiaaGreat
open Go.RowKit Gus
abbrev f3V (n0:Int) (m0:Nat) (n1:Int) (m1:Nat) (n2:Int) (m2:Nat):Value:= .agg #[.int .u64 (lowN (sz n0)),.string (bigS (sz n0)),.bool (ng n0),.int .u64 (lowN m0),.string (bigS m0),.int .u64 (lowN (sz n1)),.string (bigS (sz n1)),.bool (ng n1),.int .u64 (lowN m1),.string (bigS m1),.int .u64 (lowN (sz n2)),.string (bigS (sz n2)),.bool (ng n2),.int .u64 (lowN m2),.string (bigS m2)]
abbrev k3V (a b c:Rat):Value:=f3V a.num (fm a) b.num (fm b) c.num (fm c)
set_option maxRecDepth 20000 in
set_option maxHeartbeats 4000000 in
theorem Definite_yes {n0 n1 n2 p s:Int} {m0 m1 m2 pm sm:Nat} {c:Int} (h1:∀w,Calls Tryz.prog 55 #[frV n0 m0] w (Ret w (.int .i64 1))) (h2:∀w,Calls Tryz.prog 25 #[frV n0 m0,frV n2 m2] w (Ret w (frV p pm)))
  (h3:∀w,Calls Tryz.prog 159 #[frV n1 m1] w (Ret w (frV s sm))) (h4:∀w,Calls Tryz.prog 158 #[frV p pm,frV s sm] w (Ret w (.int .i64 c))) (w:World):
  Calls Tryz.prog 136 #[f3V n0 m0 n1 m1 n2 m2] w (Ret w (.bool (decide (0<c)))):=by
 have h1:=Lib.hid h1
 have h2:=Lib.hid h2
 have h3:=Lib.hid h3
 have h4:=Lib.hid h4
 go_enter Tryz.func136,Tryz.ntmps136
 go_wp2_with fail
 go_region_held3 (fun w'=>w'.cell? ⟨w.heap.size,0,none⟩=some (.int .u64 (lowN (sz n0)))∧w'.cell? ⟨w.heap.size,1,none⟩=some (.string (bigS (sz n0)))∧w'.cell? ⟨w.heap.size,2,none⟩=some (.bool (ng n0))∧w'.cell? ⟨w.heap.size,3,none⟩=some (.int .u64 (lowN m0))∧w'.cell? ⟨w.heap.size,4,none⟩=some (.string (bigS m0))∧w'.cell? ⟨w.heap.size,5,none⟩=some (.int .u64 (lowN (sz n1)))∧w'.cell? ⟨w.heap.size,6,none⟩=some (.string (bigS (sz n1)))∧w'.cell? ⟨w.heap.size,7,none⟩=some (.bool (ng n1))∧w'.cell? ⟨w.heap.size,8,none⟩=some (.int .u64 (lowN m1))∧w'.cell? ⟨w.heap.size,9,none⟩=some (.string (bigS m1))∧w'.cell? ⟨w.heap.size,10,none⟩=some (.int .u64 (lowN (sz n2)))∧w'.cell? ⟨w.heap.size,11,none⟩=some (.string (bigS (sz n2)))∧w'.cell? ⟨w.heap.size,12,none⟩=some (.bool (ng n2))∧w'.cell? ⟨w.heap.size,13,none⟩=some (.int .u64 (lowN m2))∧w'.cell? ⟨w.heap.size,14,none⟩=some (.string (bigS m2)))
  (first|(simp [go_sem, *];done))
  (first|((go_at_call 55;refine(h1.out _).mono ?_;rintro e w1 ⟨rfl,hg1⟩;(try (with_reducible replace hg1:=Gr.of_drew hg1));have hsz1:=hg1.size;(try simp at hsz1);have hz1_0:w.heap.size<w1.heap.size:=(by omega);obtain ⟨hc1,hf1⟩:=hg1.cells;have HG1:=Lib.hid hg1;clear hg1))|((go_at_call 25;refine(h2.out _).mono ?_;rintro e w2 ⟨rfl,hg2⟩;(try (with_reducible replace hg2:=Gr.of_drew hg2));have hsz2:=hg2.size;(try simp at hsz2);have hz2_0:w.heap.size<w2.heap.size:=(by omega);obtain ⟨hc2,hf2⟩:=hg2.cells;have HG2:=Lib.hid hg2;clear hg2))|((go_at_call 159;refine(h3.out _).mono ?_;rintro e w3 ⟨rfl,hg3⟩;(try (with_reducible replace hg3:=Gr.of_drew hg3));have hsz3:=hg3.size;(try simp at hsz3);have hz3_0:w.heap.size<w3.heap.size:=(by omega);obtain ⟨hc3,hf3⟩:=hg3.cells;have HG3:=Lib.hid hg3;clear hg3))|((go_at_call 158;refine(h4.out _).mono ?_;rintro e w4 ⟨rfl,hg4⟩;(try (with_reducible replace hg4:=Gr.of_drew hg4));have hsz4:=hg4.size;(try simp at hsz4);have hz4_0:w.heap.size<w4.heap.size:=(by omega);obtain ⟨hc4,hf4⟩:=hg4.cells;have HG4:=Lib.hid hg4;clear hg4)))
 go_wp2
 go_ret
 exact⟨by simp,by(with_reducible (repeat' (first|exact Gr.refl _ _|refine Gr.drew ?_|refine Gr.setCell ?_ ?_ _|refine Gr.alloc ?_ ?_ _|refine Gr.trans ?_ (Gr.mono HG4.out ?_)|refine Gr.trans ?_ (Gr.mono HG3.out ?_)|refine Gr.trans ?_ (Gr.mono HG2.out ?_)|refine Gr.trans ?_ (Gr.mono HG1.out ?_)|omega|(simp;done)|(simp;omega))))⟩
set_option maxRecDepth 20000 in
set_option maxHeartbeats 4000000 in
theorem Definite_no0 {n0 n1 n2:Int} {m0 m1 m2:Nat} (h1:∀w,Calls Tryz.prog 55 #[frV n0 m0] w (Ret w (.int .i64 0))) (w:World):
  Calls Tryz.prog 136 #[f3V n0 m0 n1 m1 n2 m2] w (Ret w (.bool false)):=by
 have h1:=Lib.hid h1
 go_enter Tryz.func136,Tryz.ntmps136
 go_wp2_with fail
 refine wp_region_held_drew (S:=(fun w'=>w'.cell? ⟨w.heap.size,0,none⟩=some (.int .u64 (lowN (sz n0)))∧w'.cell? ⟨w.heap.size,1,none⟩=some (.string (bigS (sz n0)))∧w'.cell? ⟨w.heap.size,2,none⟩=some (.bool (ng n0))∧w'.cell? ⟨w.heap.size,3,none⟩=some (.int .u64 (lowN m0))∧w'.cell? ⟨w.heap.size,4,none⟩=some (.string (bigS m0)))) (by kernel_rfl) ?_ (fun hHeld=>?_)
 ·simp [go_sem]
 refine wpAnyH_take (i:=0) (v:= .pointer (some ⟨w.heap.size,0,none⟩)) rfl (by kernel_rfl) (by kernel_rfl) (by kernel_rfl) (fun _ _ _ h=>h) (Or.inl ⟨by rfl,fun w' hSw=>by(try dsimp only at hSw);go_simp⟩) (by assumption) ?_
 change wpAnyH _ _ _ _ _ _ _ (Act.put _ (some 3) (.pointer (some ⟨w.heap.size,0,none⟩))) _
 try simp only [pS]
 refine wpAnyH_take (i:=1) (v:= .agg #[.int .u64 (lowN (sz n0)),.string (bigS (sz n0)),.bool (ng n0),.int .u64 (lowN m0),.string (bigS m0)]) rfl (by kernel_rfl) (by kernel_rfl) (by kernel_rfl) (fun _ _ _ h=>h) (Or.inl ⟨by rfl,fun w' hSw=>by(try dsimp only at hSw);go_simp⟩) (by assumption) ?_
 change wpAnyH _ _ _ _ _ _ _ (Act.put _ (some 4) (.agg #[.int .u64 (lowN (sz n0)),.string (bigS (sz n0)),.bool (ng n0),.int .u64 (lowN m0),.string (bigS m0)])) _
 try simp only [pS]
 refine wpAnyH_ready (rs:= [2]) (by kernel_rfl) (by simp) ?_
 refine AllReadyH.cons rfl (fun K hK=>?_) AllReadyH.nil
 go_simp
 (refine(h1.out _).mono ?_;rintro e w1 ⟨rfl,hg1⟩;(try (with_reducible replace hg1:=Gr.of_drew hg1));have hsz1:=hg1.size;(try simp at hsz1);have hz1_0:w.heap.size<w1.heap.size:=(by omega);obtain ⟨hc1,hf1⟩:=hg1.cells;have HG1:=Lib.hid hg1;clear hg1)
 dsimp only
 refine hK.out _ _ ?_ (fun hHeld2=>?_)
 ·simp [go_sem, *]
 clear hK K hHeld
 try simp only [pS]
 refine wpAnyH_take (i:=3) (v:= .bool false) rfl (by kernel_rfl) (by kernel_rfl) (by kernel_rfl) (fun _ _ _ h=>h) (Or.inl ⟨by rfl,fun w' hSw=>by(try dsimp only at hSw);go_simp⟩) (by assumption) ?_
 change wpAnyH _ _ _ _ _ _ _ (Act.put _ (some 6) (.bool false)) _
 try simp only [pS]
 refine wpAnyH_take (i:=4) (v:= .bool false) rfl (by kernel_rfl) (by kernel_rfl) (by kernel_rfl) (fun _ _ _ h=>h) (Or.inl ⟨by rfl,fun w' hSw=>by(try dsimp only at hSw);go_simp⟩) (by assumption) ?_
 change wpAnyH _ _ _ _ _ _ _ (Act.put _ (some 7) (.bool false)) _
 try simp only [pS]
 refine wpAnyH_take (i:=5) (v:=undef) rfl (by kernel_rfl) (by kernel_rfl) (by kernel_rfl) (fun _ _ _ h=>h) (Or.inr ⟨by rfl,rfl⟩) (by assumption) ?_
 change wpAnyH _ _ _ _ _ _ _ (Act.put _ (some 8) (undef)) _
 try simp only [pS]
 refine wpAnyH_take (i:=6) (v:=undef) rfl (by kernel_rfl) (by kernel_rfl) (by kernel_rfl) (fun _ _ _ h=>h) (Or.inr ⟨by rfl,rfl⟩) (by assumption) ?_
 change wpAnyH _ _ _ _ _ _ _ (Act.put _ (some 9) (undef)) _
 try simp only [pS]
 refine wpAnyH_take (i:=7) (v:=undef) rfl (by kernel_rfl) (by kernel_rfl) (by kernel_rfl) (fun _ _ _ h=>h) (Or.inr ⟨by rfl,rfl⟩) (by assumption) ?_
 change wpAnyH _ _ _ _ _ _ _ (Act.put _ (some 10) (undef)) _
 try simp only [pS]
 refine wpAnyH_take (i:=8) (v:=undef) rfl (by kernel_rfl) (by kernel_rfl) (by kernel_rfl) (fun _ _ _ h=>h) (Or.inr ⟨by rfl,rfl⟩) (by assumption) ?_
 change wpAnyH _ _ _ _ _ _ _ (Act.put _ (some 11) (undef)) _
 try simp only [pS]
 refine wpAnyH_take (i:=10) (v:=undef) rfl (by kernel_rfl) (by kernel_rfl) (by kernel_rfl) (fun _ _ _ h=>h) (Or.inr ⟨by rfl,rfl⟩) (by assumption) ?_
 change wpAnyH _ _ _ _ _ _ _ (Act.put _ (some 13) (undef)) _
 try simp only [pS]
 refine wpAnyH_take (i:=11) (v:=undef) rfl (by kernel_rfl) (by kernel_rfl) (by kernel_rfl) (fun _ _ _ h=>h) (Or.inr ⟨by rfl,rfl⟩) (by assumption) ?_
 change wpAnyH _ _ _ _ _ _ _ (Act.put _ (some 14) (undef)) _
 try simp only [pS]
 refine wpAnyH_take (i:=9) (v:=undef) rfl (by kernel_rfl) (by kernel_rfl) (by kernel_rfl) (fun _ _ _ h=>h) (Or.inr ⟨by rfl,rfl⟩) (by assumption) ?_
 change wpAnyH _ _ _ _ _ _ _ (Act.put _ (some 12) (undef)) _
 try simp only [pS]
 refine wpAnyH_take (i:=12) (v:=undef) rfl (by kernel_rfl) (by kernel_rfl) (by kernel_rfl) (fun _ _ _ h=>h) (Or.inr ⟨by rfl,rfl⟩) (by assumption) ?_
 change wpAnyH _ _ _ _ _ _ _ (Act.put _ (some 15) (undef)) _
 try simp only [pS]
 refine wpAnyH_take (i:=13) (v:=undef) rfl (by kernel_rfl) (by kernel_rfl) (by kernel_rfl) (fun _ _ _ h=>h) (Or.inr ⟨by rfl,rfl⟩) (by assumption) ?_
 change wpAnyH _ _ _ _ _ _ _ (Act.put _ (some 16) (undef)) _
 try simp only [pS]
 refine wpAnyH_take (i:=14) (v:=undef) rfl (by kernel_rfl) (by kernel_rfl) (by kernel_rfl) (fun _ _ _ h=>h) (Or.inr ⟨by rfl,rfl⟩) (by assumption) ?_
 change wpAnyH _ _ _ _ _ _ _ (Act.put _ (some 17) (undef)) _
 try simp only [pS]
 refine wpAnyH_take (i:=15) (v:= .bool false) rfl (by kernel_rfl) (by kernel_rfl) (by kernel_rfl) (fun _ _ _ h=>h) (Or.inl ⟨by rfl,fun w' hSw=>by(try dsimp only at hSw);go_simp⟩) (by assumption) ?_
 change wpAnyH _ _ _ _ _ _ _ (Act.put _ (some 18) (.bool false)) _
 try simp only [pS]
 refine wpAnyH_take (i:=16) (v:= .bool false) rfl (by kernel_rfl) (by kernel_rfl) (by kernel_rfl) (fun _ _ _ h=>h) (Or.inl ⟨by rfl,fun w' hSw=>by(try dsimp only at hSw);go_simp⟩) (by assumption) ?_
 change wpAnyH _ _ _ _ _ _ _ (Act.put _ (some 2) (.bool false)) _
 try simp only [pS]
 refine wpAnyH_done (by kernel_rfl) ?_ _
 go_wp2
 go_ret
 exact⟨rfl,by(with_reducible (repeat' (first|exact Gr.refl _ _|refine Gr.drew ?_|refine Gr.setCell ?_ ?_ _|refine Gr.alloc ?_ ?_ _|refine Gr.trans ?_ (Gr.mono HG1.out ?_)|omega|(simp;done)|(simp;omega))))⟩
set_option maxRecDepth 20000 in
set_option maxHeartbeats 4000000 in
theorem Definite_no1 {n0 n1 n2:Int} {m0 m1 m2:Nat} (h1:∀w,Calls Tryz.prog 55 #[frV n0 m0] w (Ret w (.int .i64 (-1)))) (w:World):
  Calls Tryz.prog 136 #[f3V n0 m0 n1 m1 n2 m2] w (Ret w (.bool false)):=by
 have h1:=Lib.hid h1
 go_enter Tryz.func136,Tryz.ntmps136
 go_wp2_with fail
 refine wp_region_held_drew (S:=(fun w'=>w'.cell? ⟨w.heap.size,0,none⟩=some (.int .u64 (lowN (sz n0)))∧w'.cell? ⟨w.heap.size,1,none⟩=some (.string (bigS (sz n0)))∧w'.cell? ⟨w.heap.size,2,none⟩=some (.bool (ng n0))∧w'.cell? ⟨w.heap.size,3,none⟩=some (.int .u64 (lowN m0))∧w'.cell? ⟨w.heap.size,4,none⟩=some (.string (bigS m0)))) (by kernel_rfl) ?_ (fun hHeld=>?_)
 ·simp [go_sem]
 refine wpAnyH_take (i:=0) (v:= .pointer (some ⟨w.heap.size,0,none⟩)) rfl (by kernel_rfl) (by kernel_rfl) (by kernel_rfl) (fun _ _ _ h=>h) (Or.inl ⟨by rfl,fun w' hSw=>by(try dsimp only at hSw);go_simp⟩) (by assumption) ?_
 change wpAnyH _ _ _ _ _ _ _ (Act.put _ (some 3) (.pointer (some ⟨w.heap.size,0,none⟩))) _
 try simp only [pS]
 refine wpAnyH_take (i:=1) (v:= .agg #[.int .u64 (lowN (sz n0)),.string (bigS (sz n0)),.bool (ng n0),.int .u64 (lowN m0),.string (bigS m0)]) rfl (by kernel_rfl) (by kernel_rfl) (by kernel_rfl) (fun _ _ _ h=>h) (Or.inl ⟨by rfl,fun w' hSw=>by(try dsimp only at hSw);go_simp⟩) (by assumption) ?_
 change wpAnyH _ _ _ _ _ _ _ (Act.put _ (some 4) (.agg #[.int .u64 (lowN (sz n0)),.string (bigS (sz n0)),.bool (ng n0),.int .u64 (lowN m0),.string (bigS m0)])) _
 try simp only [pS]
 refine wpAnyH_ready (rs:= [2]) (by kernel_rfl) (by simp) ?_
 refine AllReadyH.cons rfl (fun K hK=>?_) AllReadyH.nil
 go_simp
 (refine(h1.out _).mono ?_;rintro e w1 ⟨rfl,hg1⟩;(try (with_reducible replace hg1:=Gr.of_drew hg1));have hsz1:=hg1.size;(try simp at hsz1);have hz1_0:w.heap.size<w1.heap.size:=(by omega);obtain ⟨hc1,hf1⟩:=hg1.cells;have HG1:=Lib.hid hg1;clear hg1)
 dsimp only
 refine hK.out _ _ ?_ (fun hHeld2=>?_)
 ·simp [go_sem, *]
 clear hK K hHeld
 try simp only [pS]
 refine wpAnyH_take (i:=3) (v:= .bool false) rfl (by kernel_rfl) (by kernel_rfl) (by kernel_rfl) (fun _ _ _ h=>h) (Or.inl ⟨by rfl,fun w' hSw=>by(try dsimp only at hSw);go_simp⟩) (by assumption) ?_
 change wpAnyH _ _ _ _ _ _ _ (Act.put _ (some 6) (.bool false)) _
 try simp only [pS]
 refine wpAnyH_take (i:=4) (v:= .bool false) rfl (by kernel_rfl) (by kernel_rfl) (by kernel_rfl) (fun _ _ _ h=>h) (Or.inl ⟨by rfl,fun w' hSw=>by(try dsimp only at hSw);go_simp⟩) (by assumption) ?_
 change wpAnyH _ _ _ _ _ _ _ (Act.put _ (some 7) (.bool false)) _
 try simp only [pS]
 refine wpAnyH_take (i:=5) (v:=undef) rfl (by kernel_rfl) (by kernel_rfl) (by kernel_rfl) (fun _ _ _ h=>h) (Or.inr ⟨by rfl,rfl⟩) (by assumption) ?_
 change wpAnyH _ _ _ _ _ _ _ (Act.put _ (some 8) (undef)) _
 try simp only [pS]
 refine wpAnyH_take (i:=6) (v:=undef) rfl (by kernel_rfl) (by kernel_rfl) (by kernel_rfl) (fun _ _ _ h=>h) (Or.inr ⟨by rfl,rfl⟩) (by assumption) ?_
 change wpAnyH _ _ _ _ _ _ _ (Act.put _ (some 9) (undef)) _
 try simp only [pS]
 refine wpAnyH_take (i:=7) (v:=undef) rfl (by kernel_rfl) (by kernel_rfl) (by kernel_rfl) (fun _ _ _ h=>h) (Or.inr ⟨by rfl,rfl⟩) (by assumption) ?_
 change wpAnyH _ _ _ _ _ _ _ (Act.put _ (some 10) (undef)) _
 try simp only [pS]
 refine wpAnyH_take (i:=8) (v:=undef) rfl (by kernel_rfl) (by kernel_rfl) (by kernel_rfl) (fun _ _ _ h=>h) (Or.inr ⟨by rfl,rfl⟩) (by assumption) ?_
 change wpAnyH _ _ _ _ _ _ _ (Act.put _ (some 11) (undef)) _
 try simp only [pS]
 refine wpAnyH_take (i:=10) (v:=undef) rfl (by kernel_rfl) (by kernel_rfl) (by kernel_rfl) (fun _ _ _ h=>h) (Or.inr ⟨by rfl,rfl⟩) (by assumption) ?_
 change wpAnyH _ _ _ _ _ _ _ (Act.put _ (some 13) (undef)) _
 try simp only [pS]
 refine wpAnyH_take (i:=11) (v:=undef) rfl (by kernel_rfl) (by kernel_rfl) (by kernel_rfl) (fun _ _ _ h=>h) (Or.inr ⟨by rfl,rfl⟩) (by assumption) ?_
 change wpAnyH _ _ _ _ _ _ _ (Act.put _ (some 14) (undef)) _
 try simp only [pS]
 refine wpAnyH_take (i:=9) (v:=undef) rfl (by kernel_rfl) (by kernel_rfl) (by kernel_rfl) (fun _ _ _ h=>h) (Or.inr ⟨by rfl,rfl⟩) (by assumption) ?_
 change wpAnyH _ _ _ _ _ _ _ (Act.put _ (some 12) (undef)) _
 try simp only [pS]
 refine wpAnyH_take (i:=12) (v:=undef) rfl (by kernel_rfl) (by kernel_rfl) (by kernel_rfl) (fun _ _ _ h=>h) (Or.inr ⟨by rfl,rfl⟩) (by assumption) ?_
 change wpAnyH _ _ _ _ _ _ _ (Act.put _ (some 15) (undef)) _
 try simp only [pS]
 refine wpAnyH_take (i:=13) (v:=undef) rfl (by kernel_rfl) (by kernel_rfl) (by kernel_rfl) (fun _ _ _ h=>h) (Or.inr ⟨by rfl,rfl⟩) (by assumption) ?_
 change wpAnyH _ _ _ _ _ _ _ (Act.put _ (some 16) (undef)) _
 try simp only [pS]
 refine wpAnyH_take (i:=14) (v:=undef) rfl (by kernel_rfl) (by kernel_rfl) (by kernel_rfl) (fun _ _ _ h=>h) (Or.inr ⟨by rfl,rfl⟩) (by assumption) ?_
 change wpAnyH _ _ _ _ _ _ _ (Act.put _ (some 17) (undef)) _
 try simp only [pS]
 refine wpAnyH_take (i:=15) (v:= .bool false) rfl (by kernel_rfl) (by kernel_rfl) (by kernel_rfl) (fun _ _ _ h=>h) (Or.inl ⟨by rfl,fun w' hSw=>by(try dsimp only at hSw);go_simp⟩) (by assumption) ?_
 change wpAnyH _ _ _ _ _ _ _ (Act.put _ (some 18) (.bool false)) _
 try simp only [pS]
 refine wpAnyH_take (i:=16) (v:= .bool false) rfl (by kernel_rfl) (by kernel_rfl) (by kernel_rfl) (fun _ _ _ h=>h) (Or.inl ⟨by rfl,fun w' hSw=>by(try dsimp only at hSw);go_simp⟩) (by assumption) ?_
 change wpAnyH _ _ _ _ _ _ _ (Act.put _ (some 2) (.bool false)) _
 try simp only [pS]
 refine wpAnyH_done (by kernel_rfl) ?_ _
 go_wp2
 go_ret
 exact⟨rfl,by(with_reducible (repeat' (first|exact Gr.refl _ _|refine Gr.drew ?_|refine Gr.setCell ?_ ?_ _|refine Gr.alloc ?_ ?_ _|refine Gr.trans ?_ (Gr.mono HG1.out ?_)|omega|(simp;done)|(simp;omega))))⟩
def defQ (a b c:Rat):Bool:=decide (0<a.num) && decide (0<cmpQ (a*c) (b*b))
theorem pr_Definite (a b c:Rat) (w:World) (ha:hw a≤50000000000) (hb:hw b≤50000000000) (hc:hw c≤50000000000):
  Calls Tryz.prog 136 #[k3V a b c] w (Ret w (.bool (defQ a b c))):=by
 unfold defQ
 rcases Int.lt_trichotomy a.num 0 with h|h|h
 ·rw [decide_eq_false (by omega)]
  refine Definite_no1 (fun w=>?_) w
  have:=fr_Sign a w
  rw [show sgnI a.num= -1 by unfold sgnI;rw [if_pos h]]at this
  exact this
 ·rw [decide_eq_false (by omega)]
  refine Definite_no0 (fun w=>?_) w
  have:=fr_Sign a w
  rw [show sgnI a.num=0 by rw [h];rfl]at this
  exact this
 ·rw [decide_eq_true h,Bool.true_and]
  have h1:=hw_mul a c
  have h2:=hw_mul b b
  refine Definite_yes (p:=(a*c).num) (pm:=fm (a*c)) (s:=(b*b).num) (sm:=fm (b*b)) (fun w=>?_) (fun w=>fr_Mul a c w (by omega) (by omega)) (fun w=>fr_Square b w (by omega)) (fun w=>fr_Cmp (a*c) (b*b) w (by omega) (by omega)) w
  have:=fr_Sign a w
  rw [show sgnI a.num=1 by unfold sgnI;rw [if_neg (by omega),if_neg (by omega)]]at this
  exact this
end Go.Proofs.YtmelogdhllhjiaaGreat
