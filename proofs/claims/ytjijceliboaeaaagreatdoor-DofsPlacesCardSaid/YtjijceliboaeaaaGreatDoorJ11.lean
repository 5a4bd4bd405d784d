/-
  Part 11 of the proof: PtA PtB.
-/
import Derived.Test.YtjijceliboaeaaaGreatDoorJ10
set_option linter.unusedSimpArgs false
set_option linter.unusedVariables false
namespace Go.Proofs.YtjijceliboaeaaaGreatDoor
open Go.RowKit Gus
structure Pt where
 x:Rat
 y:Rat
deriving DecidableEq
instance:Inhabited Pt:=⟨⟨0,0⟩⟩
abbrev p2C (n0:Int) (m0:Nat) (n1:Int) (m1:Nat):List Value:= [.int .u64 (lowN (sz n0)),.string (bigS (sz n0)),.bool (ng n0),.int .u64 (lowN m0),.string (bigS m0),.int .u64 (lowN (sz n1)),.string (bigS (sz n1)),.bool (ng n1),.int .u64 (lowN m1),.string (bigS m1)]
abbrev p2V (n0:Int) (m0:Nat) (n1:Int) (m1:Nat):Value:= .agg #[.int .u64 (lowN (sz n0)),.string (bigS (sz n0)),.bool (ng n0),.int .u64 (lowN m0),.string (bigS m0),.int .u64 (lowN (sz n1)),.string (bigS (sz n1)),.bool (ng n1),.int .u64 (lowN m1),.string (bigS m1)]
abbrev pC (p:Pt):List Value:=p2C p.x.num (fm p.x) p.y.num (fm p.y)
abbrev pV (p:Pt):Value:=p2V p.x.num (fm p.x) p.y.num (fm p.y)
theorem info_Point:(Tryz.prog.info? 55).map (·.size)=some 10:=by kernel_rfl
set_option maxRecDepth 20000 in
set_option maxHeartbeats 4000000 in
theorem PtInt_raw {n0 n1:Int} {m0 m1:Nat} (a b:Int) (h1:∀w,Calls Tryz.prog 27 #[.int .i64 a] w (Ret w (frV n0 m0))) (h2:∀w,Calls Tryz.prog 27 #[.int .i64 b] w (Ret w (frV n1 m1))) (w:World):Calls Tryz.prog 57 #[.int .i64 a,.int .i64 b] w (Ret w (p2V n0 m0 n1 m1)):=by
 have h1:=Lib.hid h1
 have h2:=Lib.hid h2
 go_enter Tryz.func57,Tryz.ntmps57
 go_wp2_with fail
 (refine(h1.out _).mono ?_;rintro e w1 ⟨rfl,hg1⟩;(try (with_reducible replace hg1:=Gr.of_drew hg1));have hsz1:=hg1.size;(try simp at hsz1);have hz1_0:w.heap.size<w1.heap.size:=(by omega);obtain ⟨hc1,hf1⟩:=hg1.cells;have HG1:=Lib.hid hg1;clear hg1)
 go_wp2_with fail
 (refine(h2.out _).mono ?_;rintro e w2 ⟨rfl,hg2⟩;(try (with_reducible replace hg2:=Gr.of_drew hg2));have hsz2:=hg2.size;(try simp at hsz2);have hz2_0:w.heap.size<w2.heap.size:=(by omega);obtain ⟨hc2,hf2⟩:=hg2.cells;have HG2:=Lib.hid hg2;clear hg2)
 go_wp2
 refine ret_row (g:=w.heap.size) Tryz.results57 rfl (VB.set (cs:= [.int .u64 0,.string ⟨#[]⟩,.bool false,.int .u64 0,.string ⟨#[]⟩,.int .u64 0,.string ⟨#[]⟩,.bool false,.int .u64 0,.string ⟨#[]⟩]) ?_ [.int .u64 (lowN (sz n0)),.string (bigS (sz n0)),.bool (ng n0),.int .u64 (lowN m0),.string (bigS m0),.int .u64 (lowN (sz n1)),.string (bigS (sz n1)),.bool (ng n1),.int .u64 (lowN m1),.string (bigS m1)] rfl) Tryz.underlying55 rfl info_Point rfl ⟨rfl,?_⟩
 ·(with_reducible (repeat' (first|(refine VB.new' ?_;exact(by first|omega|(simp;done)|(simp;omega)))|apply VB.put2|apply VB.put3|apply VB.put5|refine VB.drew ?_|refine VB.far ?_ ?_ _|refine VB.alloc ?_ _|refine VB.gr ?_ HG2.out ?_|refine VB.gr ?_ HG1.out ?_|omega|(simp;done)|(simp;omega))))
 ·(with_reducible (repeat' (first|exact Gr.refl _ _|refine Gr.drew ?_|refine Gr.setCell ?_ ?_ _|refine Gr.alloc ?_ ?_ _|refine Gr.trans ?_ (Gr.mono HG2.out ?_)|refine Gr.trans ?_ (Gr.mono HG1.out ?_)|omega|(simp;done)|(simp;omega))))
set_option maxRecDepth 20000 in
set_option maxHeartbeats 4000000 in
theorem both_raw {n0 n1 n2 n3:Int} {m0 m1 m2 m3:Nat} {r0 r1:Int} {d0 d1:Nat} (h1:∀w,Calls Tryz.prog 128 #[frV n0 m0,frV n2 m2] w (Ret w (frV r0 d0))) (h2:∀w,Calls Tryz.prog 128 #[frV n1 m1,frV n3 m3] w (Ret w (frV r1 d1))) (w:World):Calls Tryz.prog 53 #[p2V n0 m0 n1 m1,p2V n2 m2 n3 m3,.func (.func 128) #[] #[]] w (Ret w (p2V r0 d0 r1 d1)):=by
 have h1:=Lib.hid h1
 have h2:=Lib.hid h2
 go_enter Tryz.func53,Tryz.ntmps53
 go_wp2_with fail
 refine wp_region_held_drew (S:=(fun w'=>w'.cell? ⟨w.heap.size,0,none⟩=some (.int .u64 (lowN (sz n0)))∧w'.cell? ⟨w.heap.size,1,none⟩=some (.string (bigS (sz n0)))∧w'.cell? ⟨w.heap.size,2,none⟩=some (.bool (ng n0))∧w'.cell? ⟨w.heap.size,3,none⟩=some (.int .u64 (lowN m0))∧w'.cell? ⟨w.heap.size,4,none⟩=some (.string (bigS m0))∧w'.cell? ⟨w.heap.size,5,none⟩=some (.int .u64 (lowN (sz n1)))∧w'.cell? ⟨w.heap.size,6,none⟩=some (.string (bigS (sz n1)))∧w'.cell? ⟨w.heap.size,7,none⟩=some (.bool (ng n1))∧w'.cell? ⟨w.heap.size,8,none⟩=some (.int .u64 (lowN m1))∧w'.cell? ⟨w.heap.size,9,none⟩=some (.string (bigS m1))∧w'.cell? ⟨w.heap.size+1,0,none⟩=some (.int .u64 (lowN (sz n2)))∧w'.cell? ⟨w.heap.size+1,1,none⟩=some (.string (bigS (sz n2)))∧w'.cell? ⟨w.heap.size+1,2,none⟩=some (.bool (ng n2))∧w'.cell? ⟨w.heap.size+1,3,none⟩=some (.int .u64 (lowN m2))∧w'.cell? ⟨w.heap.size+1,4,none⟩=some (.string (bigS m2))∧w'.cell? ⟨w.heap.size+1,5,none⟩=some (.int .u64 (lowN (sz n3)))∧w'.cell? ⟨w.heap.size+1,6,none⟩=some (.string (bigS (sz n3)))∧w'.cell? ⟨w.heap.size+1,7,none⟩=some (.bool (ng n3))∧w'.cell? ⟨w.heap.size+1,8,none⟩=some (.int .u64 (lowN m3))∧w'.cell? ⟨w.heap.size+1,9,none⟩=some (.string (bigS m3)))) (by kernel_rfl) ?_ (fun hHeld=>?_)
 ·simp [go_sem, *]
 refine tk 0 (some 7) (.func (.func 128) #[] #[]) ?_
 try simp only [pS]
 refine tk 1 (some 8) (.pointer (some ⟨w.heap.size,0,none⟩)) ?_
 try simp only [pS]
 refine tk 2 (some 9) (frV n0 m0) ?_
 try simp only [pS]
 refine tk 3 (some 10) (.pointer (some ⟨w.heap.size+1,0,none⟩)) ?_
 try simp only [pS]
 refine tk 4 (some 11) (frV n2 m2) ?_
 try simp only [pS]
 refine tk 6 (some 13) (.func (.func 128) #[] #[]) ?_
 try simp only [pS]
 refine tk 7 (some 14) (.pointer (some ⟨w.heap.size,5,none⟩)) ?_
 try simp only [pS]
 refine tk 8 (some 15) (frV n1 m1) ?_
 try simp only [pS]
 refine tk 9 (some 16) (.pointer (some ⟨w.heap.size+1,5,none⟩)) ?_
 try simp only [pS]
 refine tk 10 (some 17) (frV n3 m3) ?_
 try simp only [pS]
 refine rd 5 (fun K hK=>?_)
 go_simp
 (refine(h1.out _).mono ?_;rintro e w1 ⟨rfl,hg1⟩;(try (with_reducible replace hg1:=Gr.of_drew hg1));have hsz1:=hg1.size;(try simp at hsz1);have hz1_0:w.heap.size<w1.heap.size:=(by omega);have hz1_1:w.heap.size+1<w1.heap.size:=(by omega);have hz1_2:w.heap.size+1+1<w1.heap.size:=(by omega);obtain ⟨hc1,hf1⟩:=hg1.cells;have HG1:=Lib.hid hg1;clear hg1)
 (try dsimp only)
 refine hK.out _ _ ?_ (fun hH2=>?_)
 ·(first|exact trivial|((try dsimp only);simp [go_sem, *]))
 clear hK K hHeld
 try simp only [pS]
 refine rd 11 (fun K hK=>?_)
 go_simp
 (refine(h2.out _).mono ?_;rintro e w2 ⟨rfl,hg2⟩;(try (with_reducible replace hg2:=Gr.of_drew hg2));have hsz2:=hg2.size;(try simp at hsz2);have hz2_0:w.heap.size<w2.heap.size:=(by omega);have hz2_1:w.heap.size+1<w2.heap.size:=(by omega);have hz2_2:w.heap.size+1+1<w2.heap.size:=(by omega);obtain ⟨hc2,hf2⟩:=hg2.cells;have HG2:=Lib.hid hg2;clear hg2)
 (try dsimp only)
 refine hK.out _ _ ?_ (fun hH3=>?_)
 ·(first|exact trivial|((try dsimp only);simp [go_sem, *]))
 clear hK K hH2
 try simp only [pS]
 refine tk 12 (some 19) (p2V r0 d0 r1 d1) ?_
 try simp only [pS]
 refine rd 13 (fun K hK=>?_)
 go_simp
 (try dsimp only)
 refine hK.out _ _ ?_ (fun hH4=>?_)
 ·(first|exact trivial|((try dsimp only);simp [go_sem, *]))
 clear hK K hH3
 try simp only [pS]
 refine wpAnyH_done (by kernel_rfl) ?_ _
 go_wp2
 refine ret_row (g:=w.heap.size+1+1) Tryz.results53 rfl (VB.set (cs:= [.int .u64 0,.string ⟨#[]⟩,.bool false,.int .u64 0,.string ⟨#[]⟩,.int .u64 0,.string ⟨#[]⟩,.bool false,.int .u64 0,.string ⟨#[]⟩]) ?_ [.int .u64 (lowN (sz r0)),.string (bigS (sz r0)),.bool (ng r0),.int .u64 (lowN d0),.string (bigS d0),.int .u64 (lowN (sz r1)),.string (bigS (sz r1)),.bool (ng r1),.int .u64 (lowN d1),.string (bigS d1)] rfl) Tryz.underlying55 rfl info_Point rfl ⟨rfl,?_⟩
 ·(with_reducible (repeat' (first|(refine VB.new' ?_;exact(by first|omega|(simp;done)|(simp;omega)))|apply VB.put2|apply VB.put3|apply VB.put5|refine VB.drew ?_|refine VB.far ?_ ?_ _|refine VB.alloc ?_ _|refine VB.gr ?_ HG2.out ?_|refine VB.gr ?_ HG1.out ?_|omega|(simp;done)|(simp;omega))))
 ·(with_reducible (repeat' (first|exact Gr.refl _ _|refine Gr.drew ?_|refine Gr.setCell ?_ ?_ _|refine Gr.alloc ?_ ?_ _|refine Gr.trans ?_ (Gr.mono HG2.out ?_)|refine Gr.trans ?_ (Gr.mono HG1.out ?_)|omega|(simp;done)|(simp;omega))))
set_option maxRecDepth 20000 in
set_option maxHeartbeats 4000000 in
theorem PtSub_raw {n0 n1 n2 n3:Int} {m0 m1 m2 m3:Nat} {r0 r1:Int} {d0 d1:Nat} (h:∀w,Calls Tryz.prog 53 #[p2V n0 m0 n1 m1,p2V n2 m2 n3 m3,.func (.func 128) #[] #[]] w (Ret w (p2V r0 d0 r1 d1))) (w:World):Calls Tryz.prog 95 #[p2V n0 m0 n1 m1,p2V n2 m2 n3 m3] w (Ret w (p2V r0 d0 r1 d1)):=by
 have h:=Lib.hid h
 go_enter Tryz.func95,Tryz.ntmps95
 go_wp2_with fail
 (refine(h.out _).mono ?_;rintro e w1 ⟨rfl,hg1⟩;(try (with_reducible replace hg1:=Gr.of_drew hg1));have hsz1:=hg1.size;(try simp at hsz1);have hz1_0:w.heap.size<w1.heap.size:=(by omega);have hz1_1:w.heap.size+1<w1.heap.size:=(by omega);have hz1_2:w.heap.size+1+1<w1.heap.size:=(by omega);obtain ⟨hc1,hf1⟩:=hg1.cells;have HG1:=Lib.hid hg1;clear hg1)
 go_wp2
 refine ret_row (g:=w.heap.size+1+1) Tryz.results95 rfl (VB.set (cs:= [.int .u64 0,.string ⟨#[]⟩,.bool false,.int .u64 0,.string ⟨#[]⟩,.int .u64 0,.string ⟨#[]⟩,.bool false,.int .u64 0,.string ⟨#[]⟩]) ?_ [.int .u64 (lowN (sz r0)),.string (bigS (sz r0)),.bool (ng r0),.int .u64 (lowN d0),.string (bigS d0),.int .u64 (lowN (sz r1)),.string (bigS (sz r1)),.bool (ng r1),.int .u64 (lowN d1),.string (bigS d1)] rfl) Tryz.underlying55 rfl info_Point rfl ⟨rfl,?_⟩
 ·(with_reducible (repeat' (first|(refine VB.new' ?_;exact(by first|omega|(simp;done)|(simp;omega)))|apply VB.put2|apply VB.put3|apply VB.put5|refine VB.drew ?_|refine VB.far ?_ ?_ _|refine VB.alloc ?_ _|refine VB.gr ?_ HG1.out ?_|omega|(simp;done)|(simp;omega))))
 ·(with_reducible (repeat' (first|exact Gr.refl _ _|refine Gr.drew ?_|refine Gr.setCell ?_ ?_ _|refine Gr.alloc ?_ ?_ _|refine Gr.trans ?_ (Gr.mono HG1.out ?_)|omega|(simp;done)|(simp;omega))))
set_option maxRecDepth 20000 in
set_option maxHeartbeats 4000000 in
theorem Cross_raw {n0 n1 n2 n3:Int} {m0 m1 m2 m3:Nat} {p q r:Int} {pm qm rm:Nat} (h1:∀w,Calls Tryz.prog 56 #[frV n0 m0,frV n3 m3] w (Ret w (frV p pm))) (h2:∀w,Calls Tryz.prog 56 #[frV n1 m1,frV n2 m2] w (Ret w (frV q qm))) (h3:∀w,Calls Tryz.prog 128 #[frV p pm,frV q qm] w (Ret w (frV r rm))) (w:World):Calls Tryz.prog 94 #[p2V n0 m0 n1 m1,p2V n2 m2 n3 m3] w (Ret w (frV r rm)):=by
 have h1:=Lib.hid h1
 have h2:=Lib.hid h2
 have h3:=Lib.hid h3
 go_enter Tryz.func94,Tryz.ntmps94
 go_wp2_with fail
 refine wp_region_held_drew (S:=(fun w'=>w'.cell? ⟨w.heap.size,0,none⟩=some (.int .u64 (lowN (sz n0)))∧w'.cell? ⟨w.heap.size,1,none⟩=some (.string (bigS (sz n0)))∧w'.cell? ⟨w.heap.size,2,none⟩=some (.bool (ng n0))∧w'.cell? ⟨w.heap.size,3,none⟩=some (.int .u64 (lowN m0))∧w'.cell? ⟨w.heap.size,4,none⟩=some (.string (bigS m0))∧w'.cell? ⟨w.heap.size,5,none⟩=some (.int .u64 (lowN (sz n1)))∧w'.cell? ⟨w.heap.size,6,none⟩=some (.string (bigS (sz n1)))∧w'.cell? ⟨w.heap.size,7,none⟩=some (.bool (ng n1))∧w'.cell? ⟨w.heap.size,8,none⟩=some (.int .u64 (lowN m1))∧w'.cell? ⟨w.heap.size,9,none⟩=some (.string (bigS m1))∧w'.cell? ⟨w.heap.size+1,0,none⟩=some (.int .u64 (lowN (sz n2)))∧w'.cell? ⟨w.heap.size+1,1,none⟩=some (.string (bigS (sz n2)))∧w'.cell? ⟨w.heap.size+1,2,none⟩=some (.bool (ng n2))∧w'.cell? ⟨w.heap.size+1,3,none⟩=some (.int .u64 (lowN m2))∧w'.cell? ⟨w.heap.size+1,4,none⟩=some (.string (bigS m2))∧w'.cell? ⟨w.heap.size+1,5,none⟩=some (.int .u64 (lowN (sz n3)))∧w'.cell? ⟨w.heap.size+1,6,none⟩=some (.string (bigS (sz n3)))∧w'.cell? ⟨w.heap.size+1,7,none⟩=some (.bool (ng n3))∧w'.cell? ⟨w.heap.size+1,8,none⟩=some (.int .u64 (lowN m3))∧w'.cell? ⟨w.heap.size+1,9,none⟩=some (.string (bigS m3)))) (by kernel_rfl) ?_ (fun hHeld=>?_)
 ·simp [go_sem, *]
 refine tk 0 (some 5) (.pointer (some ⟨w.heap.size,0,none⟩)) ?_
 try simp only [pS]
 refine tk 1 (some 6) (frV n0 m0) ?_
 try simp only [pS]
 refine tk 2 (some 7) (.pointer (some ⟨w.heap.size+1,5,none⟩)) ?_
 try simp only [pS]
 refine tk 3 (some 8) (frV n3 m3) ?_
 try simp only [pS]
 refine tk 5 (some 10) (.pointer (some ⟨w.heap.size,5,none⟩)) ?_
 try simp only [pS]
 refine tk 6 (some 11) (frV n1 m1) ?_
 try simp only [pS]
 refine tk 7 (some 12) (.pointer (some ⟨w.heap.size+1,0,none⟩)) ?_
 try simp only [pS]
 refine tk 8 (some 13) (frV n2 m2) ?_
 try simp only [pS]
 refine rd 4 (fun K hK=>?_)
 go_simp
 (refine(h1.out _).mono ?_;rintro e w1 ⟨rfl,hg1⟩;(try (with_reducible replace hg1:=Gr.of_drew hg1));have hsz1:=hg1.size;(try simp at hsz1);have hz1_0:w.heap.size<w1.heap.size:=(by omega);have hz1_1:w.heap.size+1<w1.heap.size:=(by omega);have hz1_2:w.heap.size+1+1<w1.heap.size:=(by omega);obtain ⟨hc1,hf1⟩:=hg1.cells;have HG1:=Lib.hid hg1;clear hg1)
 (try dsimp only)
 refine hK.out _ _ ?_ (fun hH2=>?_)
 ·(first|exact trivial|((try dsimp only);simp [go_sem, *]))
 clear hK K hHeld
 try simp only [pS]
 refine rd 9 (fun K hK=>?_)
 go_simp
 (refine(h2.out _).mono ?_;rintro e w2 ⟨rfl,hg2⟩;(try (with_reducible replace hg2:=Gr.of_drew hg2));have hsz2:=hg2.size;(try simp at hsz2);have hz2_0:w.heap.size<w2.heap.size:=(by omega);have hz2_1:w.heap.size+1<w2.heap.size:=(by omega);have hz2_2:w.heap.size+1+1<w2.heap.size:=(by omega);obtain ⟨hc2,hf2⟩:=hg2.cells;have HG2:=Lib.hid hg2;clear hg2)
 (try dsimp only)
 refine hK.out _ _ ?_ (fun hH3=>?_)
 ·(first|exact trivial|((try dsimp only);simp [go_sem, *]))
 clear hK K hH2
 try simp only [pS]
 refine rd 10 (fun K hK=>?_)
 go_simp
 (refine(h3.out _).mono ?_;rintro e w3 ⟨rfl,hg3⟩;(try (with_reducible replace hg3:=Gr.of_drew hg3));have hsz3:=hg3.size;(try simp at hsz3);have hz3_0:w.heap.size<w3.heap.size:=(by omega);have hz3_1:w.heap.size+1<w3.heap.size:=(by omega);have hz3_2:w.heap.size+1+1<w3.heap.size:=(by omega);obtain ⟨hc3,hf3⟩:=hg3.cells;have HG3:=Lib.hid hg3;clear hg3)
 (try dsimp only)
 refine hK.out _ _ ?_ (fun hH4=>?_)
 ·(first|exact trivial|((try dsimp only);simp [go_sem, *]))
 clear hK K hH3
 try simp only [pS]
 refine rd 11 (fun K hK=>?_)
 go_simp
 (try dsimp only)
 refine hK.out _ _ ?_ (fun hH5=>?_)
 ·(first|exact trivial|((try dsimp only);simp [go_sem, *]))
 clear hK K hH4
 try simp only [pS]
 refine wpAnyH_done (by kernel_rfl) ?_ _
 go_wp2
 refine ret_row (g:=w.heap.size+1+1) Tryz.results94 rfl (VB.set (cs:= [.int .u64 0,.string ⟨#[]⟩,.bool false,.int .u64 0,.string ⟨#[]⟩]) ?_ [.int .u64 (lowN (sz r)),.string (bigS (sz r)),.bool (ng r),.int .u64 (lowN rm),.string (bigS rm)] rfl) Tryz.underlying53 rfl info_Frac rfl ⟨rfl,?_⟩
 ·(with_reducible (repeat' (first|(refine VB.new' ?_;exact(by first|omega|(simp;done)|(simp;omega)))|apply VB.put2|apply VB.put3|apply VB.put5|refine VB.drew ?_|refine VB.far ?_ ?_ _|refine VB.alloc ?_ _|refine VB.gr ?_ HG3.out ?_|refine VB.gr ?_ HG2.out ?_|refine VB.gr ?_ HG1.out ?_|omega|(simp;done)|(simp;omega))))
 ·(with_reducible (repeat' (first|exact Gr.refl _ _|refine Gr.drew ?_|refine Gr.setCell ?_ ?_ _|refine Gr.alloc ?_ ?_ _|refine Gr.trans ?_ (Gr.mono HG3.out ?_)|refine Gr.trans ?_ (Gr.mono HG2.out ?_)|refine Gr.trans ?_ (Gr.mono HG1.out ?_)|omega|(simp;done)|(simp;omega))))
set_option maxRecDepth 20000 in
set_option maxHeartbeats 4000000 in
theorem Turn_raw {n0 n1 n2 n3 n4 n5:Int} {m0 m1 m2 m3 m4 m5:Nat} {r0 r1 r2 r3 r s:Int} {d0 d1 d2 d3 rm:Nat} (h1:∀w,Calls Tryz.prog 95 #[p2V n2 m2 n3 m3,p2V n0 m0 n1 m1] w (Ret w (p2V r0 d0 r1 d1))) (h2:∀w,Calls Tryz.prog 95 #[p2V n4 m4 n5 m5,p2V n0 m0 n1 m1] w (Ret w (p2V r2 d2 r3 d3))) (h3:∀w,Calls Tryz.prog 94 #[p2V r0 d0 r1 d1,p2V r2 d2 r3 d3] w (Ret w (frV r rm))) (h4:∀w,Calls Tryz.prog 81 #[frV r rm] w (Ret w (.int .i64 s))) (w:World):Calls Tryz.prog 62 #[p2V n0 m0 n1 m1,p2V n2 m2 n3 m3,p2V n4 m4 n5 m5] w (Ret w (.int .i64 s)):=by
 have h1:=Lib.hid h1
 have h2:=Lib.hid h2
 have h3:=Lib.hid h3
 have h4:=Lib.hid h4
 go_enter Tryz.func62,Tryz.ntmps62
 go_wp2_with fail
 refine wp_region_held_drew (S:=(fun w'=>w'.cell? ⟨w.heap.size,0,none⟩=some (.int .u64 (lowN (sz n0)))∧w'.cell? ⟨w.heap.size,1,none⟩=some (.string (bigS (sz n0)))∧w'.cell? ⟨w.heap.size,2,none⟩=some (.bool (ng n0))∧w'.cell? ⟨w.heap.size,3,none⟩=some (.int .u64 (lowN m0))∧w'.cell? ⟨w.heap.size,4,none⟩=some (.string (bigS m0))∧w'.cell? ⟨w.heap.size,5,none⟩=some (.int .u64 (lowN (sz n1)))∧w'.cell? ⟨w.heap.size,6,none⟩=some (.string (bigS (sz n1)))∧w'.cell? ⟨w.heap.size,7,none⟩=some (.bool (ng n1))∧w'.cell? ⟨w.heap.size,8,none⟩=some (.int .u64 (lowN m1))∧w'.cell? ⟨w.heap.size,9,none⟩=some (.string (bigS m1))∧w'.cell? ⟨w.heap.size+1,0,none⟩=some (.int .u64 (lowN (sz n2)))∧w'.cell? ⟨w.heap.size+1,1,none⟩=some (.string (bigS (sz n2)))∧w'.cell? ⟨w.heap.size+1,2,none⟩=some (.bool (ng n2))∧w'.cell? ⟨w.heap.size+1,3,none⟩=some (.int .u64 (lowN m2))∧w'.cell? ⟨w.heap.size+1,4,none⟩=some (.string (bigS m2))∧w'.cell? ⟨w.heap.size+1,5,none⟩=some (.int .u64 (lowN (sz n3)))∧w'.cell? ⟨w.heap.size+1,6,none⟩=some (.string (bigS (sz n3)))∧w'.cell? ⟨w.heap.size+1,7,none⟩=some (.bool (ng n3))∧w'.cell? ⟨w.heap.size+1,8,none⟩=some (.int .u64 (lowN m3))∧w'.cell? ⟨w.heap.size+1,9,none⟩=some (.string (bigS m3))∧w'.cell? ⟨w.heap.size+1+1,0,none⟩=some (.int .u64 (lowN (sz n4)))∧w'.cell? ⟨w.heap.size+1+1,1,none⟩=some (.string (bigS (sz n4)))∧w'.cell? ⟨w.heap.size+1+1,2,none⟩=some (.bool (ng n4))∧w'.cell? ⟨w.heap.size+1+1,3,none⟩=some (.int .u64 (lowN m4))∧w'.cell? ⟨w.heap.size+1+1,4,none⟩=some (.string (bigS m4))∧w'.cell? ⟨w.heap.size+1+1,5,none⟩=some (.int .u64 (lowN (sz n5)))∧w'.cell? ⟨w.heap.size+1+1,6,none⟩=some (.string (bigS (sz n5)))∧w'.cell? ⟨w.heap.size+1+1,7,none⟩=some (.bool (ng n5))∧w'.cell? ⟨w.heap.size+1+1,8,none⟩=some (.int .u64 (lowN m5))∧w'.cell? ⟨w.heap.size+1+1,9,none⟩=some (.string (bigS m5)))) (by kernel_rfl) ?_ (fun hHeld=>?_)
 ·simp [go_sem, *]
 refine tk 0 (some 7) (p2V n2 m2 n3 m3) ?_
 try simp only [pS]
 refine tk 1 (some 8) (p2V n0 m0 n1 m1) ?_
 try simp only [pS]
 refine tk 3 (some 10) (p2V n4 m4 n5 m5) ?_
 try simp only [pS]
 refine tk 4 (some 11) (p2V n0 m0 n1 m1) ?_
 try simp only [pS]
 refine rd 2 (fun K hK=>?_)
 go_simp
 (refine(h1.out _).mono ?_;rintro e w1 ⟨rfl,hg1⟩;(try (with_reducible replace hg1:=Gr.of_drew hg1));have hsz1:=hg1.size;(try simp at hsz1);have hz1_0:w.heap.size<w1.heap.size:=(by omega);have hz1_1:w.heap.size+1<w1.heap.size:=(by omega);have hz1_2:w.heap.size+1+1<w1.heap.size:=(by omega);obtain ⟨hc1,hf1⟩:=hg1.cells;have HG1:=Lib.hid hg1;clear hg1)
 (try dsimp only)
 refine hK.out _ _ ?_ (fun hH2=>?_)
 ·(first|exact trivial|((try dsimp only);simp [go_sem, *]))
 clear hK K hHeld
 try simp only [pS]
 refine rd 5 (fun K hK=>?_)
 go_simp
 (refine(h2.out _).mono ?_;rintro e w2 ⟨rfl,hg2⟩;(try (with_reducible replace hg2:=Gr.of_drew hg2));have hsz2:=hg2.size;(try simp at hsz2);have hz2_0:w.heap.size<w2.heap.size:=(by omega);have hz2_1:w.heap.size+1<w2.heap.size:=(by omega);have hz2_2:w.heap.size+1+1<w2.heap.size:=(by omega);obtain ⟨hc2,hf2⟩:=hg2.cells;have HG2:=Lib.hid hg2;clear hg2)
 (try dsimp only)
 refine hK.out _ _ ?_ (fun hH3=>?_)
 ·(first|exact trivial|((try dsimp only);simp [go_sem, *]))
 clear hK K hH2
 try simp only [pS]
 refine rd 6 (fun K hK=>?_)
 go_simp
 (refine(h3.out _).mono ?_;rintro e w3 ⟨rfl,hg3⟩;(try (with_reducible replace hg3:=Gr.of_drew hg3));have hsz3:=hg3.size;(try simp at hsz3);have hz3_0:w.heap.size<w3.heap.size:=(by omega);have hz3_1:w.heap.size+1<w3.heap.size:=(by omega);have hz3_2:w.heap.size+1+1<w3.heap.size:=(by omega);obtain ⟨hc3,hf3⟩:=hg3.cells;have HG3:=Lib.hid hg3;clear hg3)
 (try dsimp only)
 refine hK.out _ _ ?_ (fun hH4=>?_)
 ·(first|exact trivial|((try dsimp only);simp [go_sem, *]))
 clear hK K hH3
 try simp only [pS]
 refine rd 7 (fun K hK=>?_)
 go_simp
 (refine(h4.out _).mono ?_;rintro e w4 ⟨rfl,hg4⟩;(try (with_reducible replace hg4:=Gr.of_drew hg4));have hsz4:=hg4.size;(try simp at hsz4);have hz4_0:w.heap.size<w4.heap.size:=(by omega);have hz4_1:w.heap.size+1<w4.heap.size:=(by omega);have hz4_2:w.heap.size+1+1<w4.heap.size:=(by omega);obtain ⟨hc4,hf4⟩:=hg4.cells;have HG4:=Lib.hid hg4;clear hg4)
 (try dsimp only)
 refine hK.out _ _ ?_ (fun hH5=>?_)
 ·(first|exact trivial|((try dsimp only);simp [go_sem, *]))
 clear hK K hH4
 try simp only [pS]
 refine tk 8 (some 6) (.int .i64 s) ?_
 try simp only [pS]
 refine wpAnyH_done (by kernel_rfl) ?_ _
 go_wp2
 go_ret
 exact⟨rfl,by(with_reducible (repeat' (first|exact Gr.refl _ _|refine Gr.drew ?_|refine Gr.setCell ?_ ?_ _|refine Gr.alloc ?_ ?_ _|refine Gr.trans ?_ (Gr.mono HG4.out ?_)|refine Gr.trans ?_ (Gr.mono HG3.out ?_)|refine Gr.trans ?_ (Gr.mono HG2.out ?_)|refine Gr.trans ?_ (Gr.mono HG1.out ?_)|omega|(simp;done)|(simp;omega))))⟩
set_option maxRecDepth 20000 in
set_option maxHeartbeats 4000000 in
theorem twice_raw {n0 n1 n2 n3 n4 n5:Int} {m0 m1 m2 m3 m4 m5:Nat} {r0 r1 r2 r3 r:Int} {d0 d1 d2 d3 rm:Nat} (h1:∀w,Calls Tryz.prog 95 #[p2V n2 m2 n3 m3,p2V n0 m0 n1 m1] w (Ret w (p2V r0 d0 r1 d1))) (h2:∀w,Calls Tryz.prog 95 #[p2V n4 m4 n5 m5,p2V n0 m0 n1 m1] w (Ret w (p2V r2 d2 r3 d3))) (h3:∀w,Calls Tryz.prog 94 #[p2V r0 d0 r1 d1,p2V r2 d2 r3 d3] w (Ret w (frV r rm))) (w:World):Calls Tryz.prog 139 #[p2V n0 m0 n1 m1,p2V n2 m2 n3 m3,p2V n4 m4 n5 m5] w (Ret w (frV r rm)):=by
 have h1:=Lib.hid h1
 have h2:=Lib.hid h2
 have h3:=Lib.hid h3
 go_enter Tryz.func139,Tryz.ntmps139
 go_wp2_with fail
 refine wp_region_held_drew (S:=(fun w'=>w'.cell? ⟨w.heap.size,0,none⟩=some (.int .u64 (lowN (sz n0)))∧w'.cell? ⟨w.heap.size,1,none⟩=some (.string (bigS (sz n0)))∧w'.cell? ⟨w.heap.size,2,none⟩=some (.bool (ng n0))∧w'.cell? ⟨w.heap.size,3,none⟩=some (.int .u64 (lowN m0))∧w'.cell? ⟨w.heap.size,4,none⟩=some (.string (bigS m0))∧w'.cell? ⟨w.heap.size,5,none⟩=some (.int .u64 (lowN (sz n1)))∧w'.cell? ⟨w.heap.size,6,none⟩=some (.string (bigS (sz n1)))∧w'.cell? ⟨w.heap.size,7,none⟩=some (.bool (ng n1))∧w'.cell? ⟨w.heap.size,8,none⟩=some (.int .u64 (lowN m1))∧w'.cell? ⟨w.heap.size,9,none⟩=some (.string (bigS m1))∧w'.cell? ⟨w.heap.size+1,0,none⟩=some (.int .u64 (lowN (sz n2)))∧w'.cell? ⟨w.heap.size+1,1,none⟩=some (.string (bigS (sz n2)))∧w'.cell? ⟨w.heap.size+1,2,none⟩=some (.bool (ng n2))∧w'.cell? ⟨w.heap.size+1,3,none⟩=some (.int .u64 (lowN m2))∧w'.cell? ⟨w.heap.size+1,4,none⟩=some (.string (bigS m2))∧w'.cell? ⟨w.heap.size+1,5,none⟩=some (.int .u64 (lowN (sz n3)))∧w'.cell? ⟨w.heap.size+1,6,none⟩=some (.string (bigS (sz n3)))∧w'.cell? ⟨w.heap.size+1,7,none⟩=some (.bool (ng n3))∧w'.cell? ⟨w.heap.size+1,8,none⟩=some (.int .u64 (lowN m3))∧w'.cell? ⟨w.heap.size+1,9,none⟩=some (.string (bigS m3))∧w'.cell? ⟨w.heap.size+1+1,0,none⟩=some (.int .u64 (lowN (sz n4)))∧w'.cell? ⟨w.heap.size+1+1,1,none⟩=some (.string (bigS (sz n4)))∧w'.cell? ⟨w.heap.size+1+1,2,none⟩=some (.bool (ng n4))∧w'.cell? ⟨w.heap.size+1+1,3,none⟩=some (.int .u64 (lowN m4))∧w'.cell? ⟨w.heap.size+1+1,4,none⟩=some (.string (bigS m4))∧w'.cell? ⟨w.heap.size+1+1,5,none⟩=some (.int .u64 (lowN (sz n5)))∧w'.cell? ⟨w.heap.size+1+1,6,none⟩=some (.string (bigS (sz n5)))∧w'.cell? ⟨w.heap.size+1+1,7,none⟩=some (.bool (ng n5))∧w'.cell? ⟨w.heap.size+1+1,8,none⟩=some (.int .u64 (lowN m5))∧w'.cell? ⟨w.heap.size+1+1,9,none⟩=some (.string (bigS m5)))) (by kernel_rfl) ?_ (fun hHeld=>?_)
 ·simp [go_sem, *]
 refine tk 0 (some 7) (p2V n2 m2 n3 m3) ?_
 try simp only [pS]
 refine tk 1 (some 8) (p2V n0 m0 n1 m1) ?_
 try simp only [pS]
 refine tk 3 (some 10) (p2V n4 m4 n5 m5) ?_
 try simp only [pS]
 refine tk 4 (some 11) (p2V n0 m0 n1 m1) ?_
 try simp only [pS]
 refine rd 2 (fun K hK=>?_)
 go_simp
 (refine(h1.out _).mono ?_;rintro e w1 ⟨rfl,hg1⟩;(try (with_reducible replace hg1:=Gr.of_drew hg1));have hsz1:=hg1.size;(try simp at hsz1);have hz1_0:w.heap.size<w1.heap.size:=(by omega);have hz1_1:w.heap.size+1<w1.heap.size:=(by omega);have hz1_2:w.heap.size+1+1<w1.heap.size:=(by omega);have hz1_3:w.heap.size+1+1+1<w1.heap.size:=(by omega);obtain ⟨hc1,hf1⟩:=hg1.cells;have HG1:=Lib.hid hg1;clear hg1)
 (try dsimp only)
 refine hK.out _ _ ?_ (fun hH2=>?_)
 ·(first|exact trivial|((try dsimp only);simp [go_sem, *]))
 clear hK K hHeld
 try simp only [pS]
 refine rd 5 (fun K hK=>?_)
 go_simp
 (refine(h2.out _).mono ?_;rintro e w2 ⟨rfl,hg2⟩;(try (with_reducible replace hg2:=Gr.of_drew hg2));have hsz2:=hg2.size;(try simp at hsz2);have hz2_0:w.heap.size<w2.heap.size:=(by omega);have hz2_1:w.heap.size+1<w2.heap.size:=(by omega);have hz2_2:w.heap.size+1+1<w2.heap.size:=(by omega);have hz2_3:w.heap.size+1+1+1<w2.heap.size:=(by omega);obtain ⟨hc2,hf2⟩:=hg2.cells;have HG2:=Lib.hid hg2;clear hg2)
 (try dsimp only)
 refine hK.out _ _ ?_ (fun hH3=>?_)
 ·(first|exact trivial|((try dsimp only);simp [go_sem, *]))
 clear hK K hH2
 try simp only [pS]
 refine rd 6 (fun K hK=>?_)
 go_simp
 (refine(h3.out _).mono ?_;rintro e w3 ⟨rfl,hg3⟩;(try (with_reducible replace hg3:=Gr.of_drew hg3));have hsz3:=hg3.size;(try simp at hsz3);have hz3_0:w.heap.size<w3.heap.size:=(by omega);have hz3_1:w.heap.size+1<w3.heap.size:=(by omega);have hz3_2:w.heap.size+1+1<w3.heap.size:=(by omega);have hz3_3:w.heap.size+1+1+1<w3.heap.size:=(by omega);obtain ⟨hc3,hf3⟩:=hg3.cells;have HG3:=Lib.hid hg3;clear hg3)
 (try dsimp only)
 refine hK.out _ _ ?_ (fun hH4=>?_)
 ·(first|exact trivial|((try dsimp only);simp [go_sem, *]))
 clear hK K hH3
 try simp only [pS]
 refine rd 7 (fun K hK=>?_)
 go_simp
 (try dsimp only)
 refine hK.out _ _ ?_ (fun hH5=>?_)
 ·(first|exact trivial|((try dsimp only);simp [go_sem, *]))
 clear hK K hH4
 try simp only [pS]
 refine wpAnyH_done (by kernel_rfl) ?_ _
 go_wp2
 refine ret_row (g:=w.heap.size+1+1+1) Tryz.results139 rfl (VB.set (cs:= [.int .u64 0,.string ⟨#[]⟩,.bool false,.int .u64 0,.string ⟨#[]⟩]) ?_ [.int .u64 (lowN (sz r)),.string (bigS (sz r)),.bool (ng r),.int .u64 (lowN rm),.string (bigS rm)] rfl) Tryz.underlying53 rfl info_Frac rfl ⟨rfl,?_⟩
 ·(with_reducible (repeat' (first|(refine VB.new' ?_;exact(by first|omega|(simp;done)|(simp;omega)))|apply VB.put2|apply VB.put3|apply VB.put5|refine VB.drew ?_|refine VB.far ?_ ?_ _|refine VB.alloc ?_ _|refine VB.gr ?_ HG3.out ?_|refine VB.gr ?_ HG2.out ?_|refine VB.gr ?_ HG1.out ?_|omega|(simp;done)|(simp;omega))))
 ·(with_reducible (repeat' (first|exact Gr.refl _ _|refine Gr.drew ?_|refine Gr.setCell ?_ ?_ _|refine Gr.alloc ?_ ?_ _|refine Gr.trans ?_ (Gr.mono HG3.out ?_)|refine Gr.trans ?_ (Gr.mono HG2.out ?_)|refine Gr.trans ?_ (Gr.mono HG1.out ?_)|omega|(simp;done)|(simp;omega))))
set_option maxRecDepth 20000 in
set_option maxHeartbeats 4000000 in
theorem Less_raw1 {n0 n1 n2 n3:Int} {m0 m1 m2 m3:Nat} {c:Int} (h0:c≠0) (h1:∀w,Calls Tryz.prog 98 #[frV n0 m0,frV n2 m2] w (Ret w (.int .i64 c))) (w:World):Calls Tryz.prog 66 #[p2V n0 m0 n1 m1,p2V n2 m2 n3 m3] w (Ret w (.bool (decide (c<0)))):=by
 have h1:=Lib.hid h1
 have hb:(c == 0)=false:=by simp [h0]
 go_enter Tryz.func66,Tryz.ntmps66
 go_wp2_with fail
 (refine(h1.out _).mono ?_;rintro e w1 ⟨rfl,hg1⟩;(try (with_reducible replace hg1:=Gr.of_drew hg1));have hsz1:=hg1.size;(try simp at hsz1);have hz1_0:w.heap.size<w1.heap.size:=(by omega);have hz1_1:w.heap.size+1<w1.heap.size:=(by omega);obtain ⟨hc1,hf1⟩:=hg1.cells;have HG1:=Lib.hid hg1;clear hg1)
 go_wp2
 go_ret
 exact⟨by simp,by(with_reducible (repeat' (first|exact Gr.refl _ _|refine Gr.drew ?_|refine Gr.setCell ?_ ?_ _|refine Gr.alloc ?_ ?_ _|refine Gr.trans ?_ (Gr.mono HG1.out ?_)|omega|(simp;done)|(simp;omega))))⟩
set_option maxRecDepth 20000 in
set_option maxHeartbeats 4000000 in
theorem Less_raw0 {n0 n1 n2 n3:Int} {m0 m1 m2 m3:Nat} {c:Int} (h1:∀w,Calls Tryz.prog 98 #[frV n0 m0,frV n2 m2] w (Ret w (.int .i64 0))) (h2:∀w,Calls Tryz.prog 98 #[frV n1 m1,frV n3 m3] w (Ret w (.int .i64 c))) (w:World):Calls Tryz.prog 66 #[p2V n0 m0 n1 m1,p2V n2 m2 n3 m3] w (Ret w (.bool (decide (c<0)))):=by
 have h1:=Lib.hid h1
 have h2:=Lib.hid h2
 go_enter Tryz.func66,Tryz.ntmps66
 go_wp2_with fail
 (refine(h1.out _).mono ?_;rintro e w1 ⟨rfl,hg1⟩;(try (with_reducible replace hg1:=Gr.of_drew hg1));have hsz1:=hg1.size;(try simp at hsz1);have hz1_0:w.heap.size<w1.heap.size:=(by omega);have hz1_1:w.heap.size+1<w1.heap.size:=(by omega);obtain ⟨hc1,hf1⟩:=hg1.cells;have HG1:=Lib.hid hg1;clear hg1)
 go_wp2_with fail
 (refine(h2.out _).mono ?_;rintro e w2 ⟨rfl,hg2⟩;(try (with_reducible replace hg2:=Gr.of_drew hg2));have hsz2:=hg2.size;(try simp at hsz2);have hz2_0:w.heap.size<w2.heap.size:=(by omega);have hz2_1:w.heap.size+1<w2.heap.size:=(by omega);obtain ⟨hc2,hf2⟩:=hg2.cells;have HG2:=Lib.hid hg2;clear hg2)
 go_wp2
 go_ret
 exact⟨by simp,by(with_reducible (repeat' (first|exact Gr.refl _ _|refine Gr.drew ?_|refine Gr.setCell ?_ ?_ _|refine Gr.alloc ?_ ?_ _|refine Gr.trans ?_ (Gr.mono HG2.out ?_)|refine Gr.trans ?_ (Gr.mono HG1.out ?_)|omega|(simp;done)|(simp;omega))))⟩
end Go.Proofs.YtjijceliboaeaaaGreatDoor
namespace Go.Proofs.YtjijceliboaeaaaGreatDoor
open Go.RowKit Gus
def hp (p:Pt):Nat:=max (hw p.x) (hw p.y)
def Pt.sub (a b:Pt):Pt:=⟨a.x - b.x,a.y - b.y⟩
def Pt.cross (a b:Pt):Rat:=a.x*b.y - a.y*b.x
def twice (a b c:Pt):Rat:=(b.sub a).cross (c.sub a)
def turn (a b c:Pt):Int:=sgnI (twice a b c).num
def lessP (a b:Pt):Bool:=if cmpQ a.x b.x=0 then decide (cmpQ a.y b.y<0)else decide (cmpQ a.x b.x<0)
theorem pt_Int (a b:Int) (w:World) (h1: -9223372036854775808≤a) (h2:a≤9223372036854775807) (h3: -9223372036854775808≤b) (h4:b≤9223372036854775807):Calls Tryz.prog 57 #[.int .i64 a,.int .i64 b] w (Ret w (pV ⟨(a:Rat),(b:Rat)⟩)):=
 PtInt_raw a b (fun w=>fr_Int a w h1 h2) (fun w=>fr_Int b w h3 h4) w
theorem hp_sub (a b:Pt):hp (a.sub b)≤hp a+hp b+1:=by
 have h1:=hw_sub a.x b.x;have h2:=hw_sub a.y b.y
 unfold hp Pt.sub;simp only;omega
theorem hw_cross (a b:Pt):hw (a.cross b)≤2*hp a+2*hp b+1:=by
 have h1:=hw_mul a.x b.y;have h2:=hw_mul a.y b.x;have h3:=hw_sub (a.x*b.y) (a.y*b.x)
 unfold hp Pt.cross;omega
theorem hw_twice (a b c:Pt):hw (twice a b c)≤4*hp a+2*hp b+2*hp c+5:=by
 have h1:=hw_cross (b.sub a) (c.sub a);have h2:=hp_sub b a;have h3:=hp_sub c a
 unfold twice;omega
theorem pt_Sub (a b:Pt) (w:World) (ha:hp a≤10000000000) (hb:hp b≤10000000000):Calls Tryz.prog 95 #[pV a,pV b] w (Ret w (pV (a.sub b))):=by
 unfold hp at ha hb
 exact PtSub_raw (fun w=>both_raw (fun w=>fr_Sub a.x b.x w (by omega) (by omega)) (fun w=>fr_Sub a.y b.y w (by omega) (by omega)) w) w
theorem pt_Cross (a b:Pt) (w:World) (ha:hp a≤10000000000) (hb:hp b≤10000000000):Calls Tryz.prog 94 #[pV a,pV b] w (Ret w (fracV (a.cross b))):=by
 unfold hp at ha hb
 have h1:=hw_mul a.x b.y;have h2:=hw_mul a.y b.x
 exact Cross_raw (fun w=>fr_Mul a.x b.y w (by omega) (by omega)) (fun w=>fr_Mul a.y b.x w (by omega) (by omega)) (fun w=>fr_Sub (a.x*b.y) (a.y*b.x) w (by omega) (by omega)) w
theorem tr_twice (a b c:Pt) (w:World) (ha:hp a≤1000000000) (hb:hp b≤1000000000) (hc:hp c≤1000000000):Calls Tryz.prog 139 #[pV a,pV b,pV c] w (Ret w (fracV (twice a b c))):=by
 have h2:=hp_sub b a;have h3:=hp_sub c a
 exact twice_raw (fun w=>pt_Sub b a w (by omega) (by omega)) (fun w=>pt_Sub c a w (by omega) (by omega)) (fun w=>pt_Cross (b.sub a) (c.sub a) w (by omega) (by omega)) w
theorem pt_Turn (a b c:Pt) (w:World) (ha:hp a≤1000000000) (hb:hp b≤1000000000) (hc:hp c≤1000000000):Calls Tryz.prog 62 #[pV a,pV b,pV c] w (Ret w (.int .i64 (turn a b c))):=by
 have h2:=hp_sub b a;have h3:=hp_sub c a
 exact Turn_raw (fun w=>pt_Sub b a w (by omega) (by omega)) (fun w=>pt_Sub c a w (by omega) (by omega)) (fun w=>pt_Cross (b.sub a) (c.sub a) w (by omega) (by omega)) (fun w=>fr_Sign (twice a b c) w) w
theorem pt_Less (a b:Pt) (w:World) (ha:hp a≤10000000000) (hb:hp b≤10000000000):Calls Tryz.prog 66 #[pV a,pV b] w (Ret w (.bool (lessP a b))):=by
 unfold hp at ha hb
 unfold lessP
 by_cases h:cmpQ a.x b.x=0
 ·rw [if_pos h]
  refine Less_raw0 (fun w=>?_) (fun w=>fr_Cmp a.y b.y w (by omega) (by omega)) w
  have:=fr_Cmp a.x b.x w (by omega) (by omega)
  rw [h]at this
  exact this
 ·rw [if_neg h]
  exact Less_raw1 h (fun w=>fr_Cmp a.x b.x w (by omega) (by omega)) w
end Go.Proofs.YtjijceliboaeaaaGreatDoor
