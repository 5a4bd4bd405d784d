/-
  Part 32 of the proof: PtC.
-/
import Derived.Test.YtjijceliboaeaaaGreatDoorJ31
set_option linter.unusedSimpArgs false
set_option linter.unusedVariables false
namespace Go.Proofs.YtjijceliboaeaaaGreatDoor
open Go.RowKit Gus Go.Maps
set_option maxRecDepth 20000 in
set_option maxHeartbeats 4000000 in
theorem POf_raw {n0 n1:Int} {m0 m1:Nat} {a b:Int} {d e:Nat} (h1:∀w,Calls Tryz.prog 38 #[qV a d] w (Ret w (frV n0 m0))) (h2:∀w,Calls Tryz.prog 38 #[qV b e] w (Ret w (frV n1 m1))) (w:World):Calls Tryz.prog 14 #[.agg #[.int .i64 a,.int .u32 (d:Int),.int .i64 b,.int .u32 (e:Int)]] w (Ret w (p2V n0 m0 n1 m1)):=by
 have h1:=Lib.hid h1
 have h2:=Lib.hid h2
 go_enter Tryz.func14,Tryz.ntmps14
 go_wp2_with fail
 refine wp_region_held_drew (S:=(fun w'=>w'.cell? ⟨w.heap.size,0,none⟩=some (.int .i64 a)∧w'.cell? ⟨w.heap.size,1,none⟩=some (.int .u32 (d:Int))∧w'.cell? ⟨w.heap.size,2,none⟩=some (.int .i64 b)∧w'.cell? ⟨w.heap.size,3,none⟩=some (.int .u32 (e:Int)))) (by kernel_rfl) ?_ (fun hHeld=>?_)
 ·simp [go_sem, *]
 refine tk 0 (some 3) (.pointer (some ⟨w.heap.size,0,none⟩)) ?_
 try simp only [pS]
 refine tk 1 (some 4) (qV a d) ?_
 try simp only [pS]
 refine tk 3 (some 6) (.pointer (some ⟨w.heap.size,2,none⟩)) ?_
 try simp only [pS]
 refine tk 4 (some 7) (qV b e) ?_
 try simp only [pS]
 refine rd 2 (fun K hK=>?_)
 go_simp
 (refine(h1.out _).mono ?_;rintro e w1 ⟨rfl,hg1⟩;(try (with_reducible replace hg1:=Gr.of_drew hg1));have hsz1:=hg1.size;(try simp at hsz1);have hz1_0:w.heap.size<w1.heap.size:=(by omega);have hz1_1:w.heap.size+1<w1.heap.size:=(by omega);obtain ⟨hc1,hf1⟩:=hg1.cells;have HG1:=Lib.hid hg1;clear hg1)
 (try dsimp only)
 refine hK.out _ _ ?_ (fun hH2=>?_)
 ·(first|exact trivial|((try dsimp only);simp [go_sem, *]))
 clear hK K hHeld
 try simp only [pS]
 refine rd 5 (fun K hK=>?_)
 go_simp
 (refine(h2.out _).mono ?_;rintro e w2 ⟨rfl,hg2⟩;(try (with_reducible replace hg2:=Gr.of_drew hg2));have hsz2:=hg2.size;(try simp at hsz2);have hz2_0:w.heap.size<w2.heap.size:=(by omega);have hz2_1:w.heap.size+1<w2.heap.size:=(by omega);obtain ⟨hc2,hf2⟩:=hg2.cells;have HG2:=Lib.hid hg2;clear hg2)
 (try dsimp only)
 refine hK.out _ _ ?_ (fun hH3=>?_)
 ·(first|exact trivial|((try dsimp only);simp [go_sem, *]))
 clear hK K hH2
 try simp only [pS]
 refine tk 6 (some 9) (p2V n0 m0 n1 m1) ?_
 try simp only [pS]
 refine rd 7 (fun K hK=>?_)
 go_simp
 (try dsimp only)
 refine hK.out _ _ ?_ (fun hH4=>?_)
 ·(first|exact trivial|((try dsimp only);simp [go_sem, *]))
 clear hK K hH3
 try simp only [pS]
 refine wpAnyH_done (by kernel_rfl) ?_ _
 go_wp2
 refine ret_row (g:=w.heap.size+1) Tryz.results14 rfl (VB.set (cs:= [.int .u64 0,.string ⟨#[]⟩,.bool false,.int .u64 0,.string ⟨#[]⟩,.int .u64 0,.string ⟨#[]⟩,.bool false,.int .u64 0,.string ⟨#[]⟩]) ?_ [.int .u64 (lowN (sz n0)),.string (bigS (sz n0)),.bool (ng n0),.int .u64 (lowN m0),.string (bigS m0),.int .u64 (lowN (sz n1)),.string (bigS (sz n1)),.bool (ng n1),.int .u64 (lowN m1),.string (bigS m1)] rfl) Tryz.underlying55 rfl info_Point rfl ⟨rfl,?_⟩
 ·(with_reducible (repeat' (first|(refine VB.new' ?_;exact(by first|omega|(simp;done)|(simp;omega)))|apply VB.put2|apply VB.put3|apply VB.put5|refine VB.drew ?_|refine VB.far ?_ ?_ _|refine VB.alloc ?_ _|refine VB.gr ?_ HG2.out ?_|refine VB.gr ?_ HG1.out ?_|omega|(simp;done)|(simp;omega))))
 ·(with_reducible (repeat' (first|exact Gr.refl _ _|refine Gr.drew ?_|refine Gr.setCell ?_ ?_ _|refine Gr.alloc ?_ ?_ _|refine Gr.trans ?_ (Gr.mono HG2.out ?_)|refine Gr.trans ?_ (Gr.mono HG1.out ?_)|omega|(simp;done)|(simp;omega))))
set_option maxRecDepth 20000 in
set_option maxHeartbeats 4000000 in
theorem bothA_raw {n0 n1 n2 n3:Int} {m0 m1 m2 m3:Nat} {r0 r1:Int} {d0 d1:Nat} (h1:∀w,Calls Tryz.prog 54 #[frV n0 m0,frV n2 m2] w (Ret w (frV r0 d0))) (h2:∀w,Calls Tryz.prog 54 #[frV n1 m1,frV n3 m3] w (Ret w (frV r1 d1))) (w:World):Calls Tryz.prog 53 #[p2V n0 m0 n1 m1,p2V n2 m2 n3 m3,.func (.func 54) #[] #[]] w (Ret w (p2V r0 d0 r1 d1)):=by
 have h1:=Lib.hid h1
 have h2:=Lib.hid h2
 go_enter Tryz.func53,Tryz.ntmps53
 go_wp2_with fail
 refine wp_region_held_drew (S:=(fun w'=>w'.cell? ⟨w.heap.size,0,none⟩=some (.int .u64 (lowN (sz n0)))∧w'.cell? ⟨w.heap.size,1,none⟩=some (.string (bigS (sz n0)))∧w'.cell? ⟨w.heap.size,2,none⟩=some (.bool (ng n0))∧w'.cell? ⟨w.heap.size,3,none⟩=some (.int .u64 (lowN m0))∧w'.cell? ⟨w.heap.size,4,none⟩=some (.string (bigS m0))∧w'.cell? ⟨w.heap.size,5,none⟩=some (.int .u64 (lowN (sz n1)))∧w'.cell? ⟨w.heap.size,6,none⟩=some (.string (bigS (sz n1)))∧w'.cell? ⟨w.heap.size,7,none⟩=some (.bool (ng n1))∧w'.cell? ⟨w.heap.size,8,none⟩=some (.int .u64 (lowN m1))∧w'.cell? ⟨w.heap.size,9,none⟩=some (.string (bigS m1))∧w'.cell? ⟨w.heap.size+1,0,none⟩=some (.int .u64 (lowN (sz n2)))∧w'.cell? ⟨w.heap.size+1,1,none⟩=some (.string (bigS (sz n2)))∧w'.cell? ⟨w.heap.size+1,2,none⟩=some (.bool (ng n2))∧w'.cell? ⟨w.heap.size+1,3,none⟩=some (.int .u64 (lowN m2))∧w'.cell? ⟨w.heap.size+1,4,none⟩=some (.string (bigS m2))∧w'.cell? ⟨w.heap.size+1,5,none⟩=some (.int .u64 (lowN (sz n3)))∧w'.cell? ⟨w.heap.size+1,6,none⟩=some (.string (bigS (sz n3)))∧w'.cell? ⟨w.heap.size+1,7,none⟩=some (.bool (ng n3))∧w'.cell? ⟨w.heap.size+1,8,none⟩=some (.int .u64 (lowN m3))∧w'.cell? ⟨w.heap.size+1,9,none⟩=some (.string (bigS m3)))) (by kernel_rfl) ?_ (fun hHeld=>?_)
 ·simp [go_sem, *]
 refine tk 0 (some 7) (.func (.func 54) #[] #[]) ?_
 try simp only [pS]
 refine tk 1 (some 8) (.pointer (some ⟨w.heap.size,0,none⟩)) ?_
 try simp only [pS]
 refine tk 2 (some 9) (frV n0 m0) ?_
 try simp only [pS]
 refine tk 3 (some 10) (.pointer (some ⟨w.heap.size+1,0,none⟩)) ?_
 try simp only [pS]
 refine tk 4 (some 11) (frV n2 m2) ?_
 try simp only [pS]
 refine tk 6 (some 13) (.func (.func 54) #[] #[]) ?_
 try simp only [pS]
 refine tk 7 (some 14) (.pointer (some ⟨w.heap.size,5,none⟩)) ?_
 try simp only [pS]
 refine tk 8 (some 15) (frV n1 m1) ?_
 try simp only [pS]
 refine tk 9 (some 16) (.pointer (some ⟨w.heap.size+1,5,none⟩)) ?_
 try simp only [pS]
 refine tk 10 (some 17) (frV n3 m3) ?_
 try simp only [pS]
 refine rd 5 (fun K hK=>?_)
 go_simp
 (refine(h1.out _).mono ?_;rintro e w1 ⟨rfl,hg1⟩;(try (with_reducible replace hg1:=Gr.of_drew hg1));have hsz1:=hg1.size;(try simp at hsz1);have hz1_0:w.heap.size<w1.heap.size:=(by omega);have hz1_1:w.heap.size+1<w1.heap.size:=(by omega);have hz1_2:w.heap.size+1+1<w1.heap.size:=(by omega);obtain ⟨hc1,hf1⟩:=hg1.cells;have HG1:=Lib.hid hg1;clear hg1)
 (try dsimp only)
 refine hK.out _ _ ?_ (fun hH2=>?_)
 ·(first|exact trivial|((try dsimp only);simp [go_sem, *]))
 clear hK K hHeld
 try simp only [pS]
 refine rd 11 (fun K hK=>?_)
 go_simp
 (refine(h2.out _).mono ?_;rintro e w2 ⟨rfl,hg2⟩;(try (with_reducible replace hg2:=Gr.of_drew hg2));have hsz2:=hg2.size;(try simp at hsz2);have hz2_0:w.heap.size<w2.heap.size:=(by omega);have hz2_1:w.heap.size+1<w2.heap.size:=(by omega);have hz2_2:w.heap.size+1+1<w2.heap.size:=(by omega);obtain ⟨hc2,hf2⟩:=hg2.cells;have HG2:=Lib.hid hg2;clear hg2)
 (try dsimp only)
 refine hK.out _ _ ?_ (fun hH3=>?_)
 ·(first|exact trivial|((try dsimp only);simp [go_sem, *]))
 clear hK K hH2
 try simp only [pS]
 refine tk 12 (some 19) (p2V r0 d0 r1 d1) ?_
 try simp only [pS]
 refine rd 13 (fun K hK=>?_)
 go_simp
 (try dsimp only)
 refine hK.out _ _ ?_ (fun hH4=>?_)
 ·(first|exact trivial|((try dsimp only);simp [go_sem, *]))
 clear hK K hH3
 try simp only [pS]
 refine wpAnyH_done (by kernel_rfl) ?_ _
 go_wp2
 refine ret_row (g:=w.heap.size+1+1) Tryz.results53 rfl (VB.set (cs:= [.int .u64 0,.string ⟨#[]⟩,.bool false,.int .u64 0,.string ⟨#[]⟩,.int .u64 0,.string ⟨#[]⟩,.bool false,.int .u64 0,.string ⟨#[]⟩]) ?_ [.int .u64 (lowN (sz r0)),.string (bigS (sz r0)),.bool (ng r0),.int .u64 (lowN d0),.string (bigS d0),.int .u64 (lowN (sz r1)),.string (bigS (sz r1)),.bool (ng r1),.int .u64 (lowN d1),.string (bigS d1)] rfl) Tryz.underlying55 rfl info_Point rfl ⟨rfl,?_⟩
 ·(with_reducible (repeat' (first|(refine VB.new' ?_;exact(by first|omega|(simp;done)|(simp;omega)))|apply VB.put2|apply VB.put3|apply VB.put5|refine VB.drew ?_|refine VB.far ?_ ?_ _|refine VB.alloc ?_ _|refine VB.gr ?_ HG2.out ?_|refine VB.gr ?_ HG1.out ?_|omega|(simp;done)|(simp;omega))))
 ·(with_reducible (repeat' (first|exact Gr.refl _ _|refine Gr.drew ?_|refine Gr.setCell ?_ ?_ _|refine Gr.alloc ?_ ?_ _|refine Gr.trans ?_ (Gr.mono HG2.out ?_)|refine Gr.trans ?_ (Gr.mono HG1.out ?_)|omega|(simp;done)|(simp;omega))))
set_option maxRecDepth 20000 in
set_option maxHeartbeats 4000000 in
theorem PtAdd_raw {n0 n1 n2 n3:Int} {m0 m1 m2 m3:Nat} {r0 r1:Int} {d0 d1:Nat} (h:∀w,Calls Tryz.prog 53 #[p2V n0 m0 n1 m1,p2V n2 m2 n3 m3,.func (.func 54) #[] #[]] w (Ret w (p2V r0 d0 r1 d1))) (w:World):Calls Tryz.prog 29 #[p2V n0 m0 n1 m1,p2V n2 m2 n3 m3] w (Ret w (p2V r0 d0 r1 d1)):=by
 have h:=Lib.hid h
 go_enter Tryz.func29,Tryz.ntmps29
 go_wp2_with fail
 (refine(h.out _).mono ?_;rintro e w1 ⟨rfl,hg1⟩;(try (with_reducible replace hg1:=Gr.of_drew hg1));have hsz1:=hg1.size;(try simp at hsz1);have hz1_0:w.heap.size<w1.heap.size:=(by omega);have hz1_1:w.heap.size+1<w1.heap.size:=(by omega);have hz1_2:w.heap.size+1+1<w1.heap.size:=(by omega);obtain ⟨hc1,hf1⟩:=hg1.cells;have HG1:=Lib.hid hg1;clear hg1)
 go_wp2
 refine ret_row (g:=w.heap.size+1+1) Tryz.results29 rfl (VB.set (cs:= [.int .u64 0,.string ⟨#[]⟩,.bool false,.int .u64 0,.string ⟨#[]⟩,.int .u64 0,.string ⟨#[]⟩,.bool false,.int .u64 0,.string ⟨#[]⟩]) ?_ [.int .u64 (lowN (sz r0)),.string (bigS (sz r0)),.bool (ng r0),.int .u64 (lowN d0),.string (bigS d0),.int .u64 (lowN (sz r1)),.string (bigS (sz r1)),.bool (ng r1),.int .u64 (lowN d1),.string (bigS d1)] rfl) Tryz.underlying55 rfl info_Point rfl ⟨rfl,?_⟩
 ·(with_reducible (repeat' (first|(refine VB.new' ?_;exact(by first|omega|(simp;done)|(simp;omega)))|apply VB.put2|apply VB.put3|apply VB.put5|refine VB.drew ?_|refine VB.far ?_ ?_ _|refine VB.alloc ?_ _|refine VB.gr ?_ HG1.out ?_|omega|(simp;done)|(simp;omega))))
 ·(with_reducible (repeat' (first|exact Gr.refl _ _|refine Gr.drew ?_|refine Gr.setCell ?_ ?_ _|refine Gr.alloc ?_ ?_ _|refine Gr.trans ?_ (Gr.mono HG1.out ?_)|omega|(simp;done)|(simp;omega))))
set_option maxRecDepth 20000 in
set_option maxHeartbeats 4000000 in
theorem Scale1_raw {n0 n1 n2:Int} {m0 m1 m2:Nat} {r:Int} {d:Nat} (g:Nat) (w:World) (hg:g<w.heap.size) (hc:VB w g [.int .u64 (lowN (sz n2)),.string (bigS (sz n2)),.bool (ng n2),.int .u64 (lowN m2),.string (bigS m2)]) (h:∀w,Calls Tryz.prog 56 #[frV n0 m0,frV n2 m2] w (Ret w (frV r d))):Calls Tryz.prog 55 #[frV n0 m0,frV n1 m1,.pointer (some ⟨g,0,none⟩)] w (Ret w (frV r d)):=by
 have h:=Lib.hid h
 obtain ⟨c0,c1,c2,c3,c4,_⟩:=hc.five
 have hg1:g<w.heap.size+1:=by omega
 have hg2:g<w.heap.size+1+1:=by omega
 go_enter Tryz.func55,Tryz.ntmps55
 go_wp2_with fail
 (refine(h.out _).mono ?_;rintro e w1 ⟨rfl,hg1⟩;(try (with_reducible replace hg1:=Gr.of_drew hg1));have hsz1:=hg1.size;(try simp at hsz1);have hz1_0:w.heap.size<w1.heap.size:=(by omega);have hz1_1:w.heap.size+1<w1.heap.size:=(by omega);have hz1_2:w.heap.size+1+1<w1.heap.size:=(by omega);obtain ⟨hc1,hf1⟩:=hg1.cells;have HG1:=Lib.hid hg1;clear hg1)
 go_wp2
 refine ret_row (g:=w.heap.size+1+1) Tryz.results55 rfl (VB.set (cs:= [.int .u64 0,.string ⟨#[]⟩,.bool false,.int .u64 0,.string ⟨#[]⟩]) ?_ [.int .u64 (lowN (sz r)),.string (bigS (sz r)),.bool (ng r),.int .u64 (lowN d),.string (bigS d)] rfl) Tryz.underlying53 rfl info_Frac rfl ⟨rfl,?_⟩
 ·(with_reducible (repeat' (first|(refine VB.new' ?_;exact(by first|omega|(simp;done)|(simp;omega)))|apply VB.put2|apply VB.put3|apply VB.put5|refine VB.drew ?_|refine VB.far ?_ ?_ _|refine VB.alloc ?_ _|refine VB.gr ?_ HG1.out ?_|omega|(simp;done)|(simp;omega))))
 ·(with_reducible (repeat' (first|exact Gr.refl _ _|refine Gr.drew ?_|refine Gr.setCell ?_ ?_ _|refine Gr.alloc ?_ ?_ _|refine Gr.trans ?_ (Gr.mono HG1.out ?_)|omega|(simp;done)|(simp;omega))))
set_option maxRecDepth 20000 in
set_option maxHeartbeats 4000000 in
theorem bothS_raw {n0 n1 n2 n3:Int} {m0 m1 m2 m3:Nat} {r0 r1:Int} {d0 d1:Nat} (g:Nat) (w:World) (h1:∀W,Gr w.heap.size w W→Calls Tryz.prog 55 #[frV n0 m0,frV n2 m2,.pointer (some ⟨g,0,none⟩)] W (Ret W (frV r0 d0))) (h2:∀W,Gr w.heap.size w W→Calls Tryz.prog 55 #[frV n1 m1,frV n3 m3,.pointer (some ⟨g,0,none⟩)] W (Ret W (frV r1 d1))):Calls Tryz.prog 53 #[p2V n0 m0 n1 m1,p2V n2 m2 n3 m3,.func (.func 55) #[] #[.pointer (some ⟨g,0,none⟩)]] w (Ret w (p2V r0 d0 r1 d1)):=by
 have h1:=Lib.hid h1
 have h2:=Lib.hid h2
 go_enter Tryz.func53,Tryz.ntmps53
 go_wp2_with fail
 refine wp_region_held_drew (S:=(fun w'=>w'.cell? ⟨w.heap.size,0,none⟩=some (.int .u64 (lowN (sz n0)))∧w'.cell? ⟨w.heap.size,1,none⟩=some (.string (bigS (sz n0)))∧w'.cell? ⟨w.heap.size,2,none⟩=some (.bool (ng n0))∧w'.cell? ⟨w.heap.size,3,none⟩=some (.int .u64 (lowN m0))∧w'.cell? ⟨w.heap.size,4,none⟩=some (.string (bigS m0))∧w'.cell? ⟨w.heap.size,5,none⟩=some (.int .u64 (lowN (sz n1)))∧w'.cell? ⟨w.heap.size,6,none⟩=some (.string (bigS (sz n1)))∧w'.cell? ⟨w.heap.size,7,none⟩=some (.bool (ng n1))∧w'.cell? ⟨w.heap.size,8,none⟩=some (.int .u64 (lowN m1))∧w'.cell? ⟨w.heap.size,9,none⟩=some (.string (bigS m1))∧w'.cell? ⟨w.heap.size+1,0,none⟩=some (.int .u64 (lowN (sz n2)))∧w'.cell? ⟨w.heap.size+1,1,none⟩=some (.string (bigS (sz n2)))∧w'.cell? ⟨w.heap.size+1,2,none⟩=some (.bool (ng n2))∧w'.cell? ⟨w.heap.size+1,3,none⟩=some (.int .u64 (lowN m2))∧w'.cell? ⟨w.heap.size+1,4,none⟩=some (.string (bigS m2))∧w'.cell? ⟨w.heap.size+1,5,none⟩=some (.int .u64 (lowN (sz n3)))∧w'.cell? ⟨w.heap.size+1,6,none⟩=some (.string (bigS (sz n3)))∧w'.cell? ⟨w.heap.size+1,7,none⟩=some (.bool (ng n3))∧w'.cell? ⟨w.heap.size+1,8,none⟩=some (.int .u64 (lowN m3))∧w'.cell? ⟨w.heap.size+1,9,none⟩=some (.string (bigS m3)))) (by kernel_rfl) ?_ (fun hHeld=>?_)
 ·simp [go_sem, *]
 refine tk 0 (some 7) (.func (.func 55) #[] #[.pointer (some ⟨g,0,none⟩)]) ?_
 try simp only [pS]
 refine tk 1 (some 8) (.pointer (some ⟨w.heap.size,0,none⟩)) ?_
 try simp only [pS]
 refine tk 2 (some 9) (frV n0 m0) ?_
 try simp only [pS]
 refine tk 3 (some 10) (.pointer (some ⟨w.heap.size+1,0,none⟩)) ?_
 try simp only [pS]
 refine tk 4 (some 11) (frV n2 m2) ?_
 try simp only [pS]
 refine tk 6 (some 13) (.func (.func 55) #[] #[.pointer (some ⟨g,0,none⟩)]) ?_
 try simp only [pS]
 refine tk 7 (some 14) (.pointer (some ⟨w.heap.size,5,none⟩)) ?_
 try simp only [pS]
 refine tk 8 (some 15) (frV n1 m1) ?_
 try simp only [pS]
 refine tk 9 (some 16) (.pointer (some ⟨w.heap.size+1,5,none⟩)) ?_
 try simp only [pS]
 refine tk 10 (some 17) (frV n3 m3) ?_
 try simp only [pS]
 refine rd 5 (fun K hK=>?_)
 go_simp
 (refine(h1.out _ (by(with_reducible (repeat' (first|exact Gr.refl _ _|refine Gr.drew ?_|refine Gr.setCell ?_ ?_ _|refine Gr.alloc ?_ ?_ _|omega|(simp;done)|(simp;omega)))))).mono ?_;rintro e w1 ⟨rfl,hg1⟩;(try (with_reducible replace hg1:=Gr.of_drew hg1));have hsz1:=hg1.size;(try simp at hsz1);have hz1_0:w.heap.size<w1.heap.size:=(by omega);have hz1_1:w.heap.size+1<w1.heap.size:=(by omega);have hz1_2:w.heap.size+1+1<w1.heap.size:=(by omega);obtain ⟨hc1,hf1⟩:=hg1.cells;have HG1:=Lib.hid hg1;clear hg1)
 (try dsimp only)
 refine hK.out _ _ ?_ (fun hH2=>?_)
 ·(first|exact trivial|((try dsimp only);simp [go_sem, *]))
 clear hK K hHeld
 try simp only [pS]
 refine rd 11 (fun K hK=>?_)
 go_simp
 (refine(h2.out _ (by(with_reducible (repeat' (first|exact Gr.refl _ _|refine Gr.drew ?_|refine Gr.setCell ?_ ?_ _|refine Gr.alloc ?_ ?_ _|refine Gr.trans ?_ (Gr.mono HG1.out ?_)|omega|(simp;done)|(simp;omega)))))).mono ?_;rintro e w2 ⟨rfl,hg2⟩;(try (with_reducible replace hg2:=Gr.of_drew hg2));have hsz2:=hg2.size;(try simp at hsz2);have hz2_0:w.heap.size<w2.heap.size:=(by omega);have hz2_1:w.heap.size+1<w2.heap.size:=(by omega);have hz2_2:w.heap.size+1+1<w2.heap.size:=(by omega);obtain ⟨hc2,hf2⟩:=hg2.cells;have HG2:=Lib.hid hg2;clear hg2)
 (try dsimp only)
 refine hK.out _ _ ?_ (fun hH3=>?_)
 ·(first|exact trivial|((try dsimp only);simp [go_sem, *]))
 clear hK K hH2
 try simp only [pS]
 refine tk 12 (some 19) (p2V r0 d0 r1 d1) ?_
 try simp only [pS]
 refine rd 13 (fun K hK=>?_)
 go_simp
 (try dsimp only)
 refine hK.out _ _ ?_ (fun hH4=>?_)
 ·(first|exact trivial|((try dsimp only);simp [go_sem, *]))
 clear hK K hH3
 try simp only [pS]
 refine wpAnyH_done (by kernel_rfl) ?_ _
 go_wp2
 refine ret_row (g:=w.heap.size+1+1) Tryz.results53 rfl (VB.set (cs:= [.int .u64 0,.string ⟨#[]⟩,.bool false,.int .u64 0,.string ⟨#[]⟩,.int .u64 0,.string ⟨#[]⟩,.bool false,.int .u64 0,.string ⟨#[]⟩]) ?_ [.int .u64 (lowN (sz r0)),.string (bigS (sz r0)),.bool (ng r0),.int .u64 (lowN d0),.string (bigS d0),.int .u64 (lowN (sz r1)),.string (bigS (sz r1)),.bool (ng r1),.int .u64 (lowN d1),.string (bigS d1)] rfl) Tryz.underlying55 rfl info_Point rfl ⟨rfl,?_⟩
 ·(with_reducible (repeat' (first|(refine VB.new' ?_;exact(by first|omega|(simp;done)|(simp;omega)))|apply VB.put2|apply VB.put3|apply VB.put5|refine VB.drew ?_|refine VB.far ?_ ?_ _|refine VB.alloc ?_ _|refine VB.gr ?_ HG2.out ?_|refine VB.gr ?_ HG1.out ?_|omega|(simp;done)|(simp;omega))))
 ·(with_reducible (repeat' (first|exact Gr.refl _ _|refine Gr.drew ?_|refine Gr.setCell ?_ ?_ _|refine Gr.alloc ?_ ?_ _|refine Gr.trans ?_ (Gr.mono HG2.out ?_)|refine Gr.trans ?_ (Gr.mono HG1.out ?_)|omega|(simp;done)|(simp;omega))))
set_option maxRecDepth 20000 in
set_option maxHeartbeats 4000000 in
theorem PtScale_raw {n0 n1 n2:Int} {m0 m1 m2:Nat} {r0 r1:Int} {d0 d1:Nat} (h:∀g w,VB w g [.int .u64 (lowN (sz n2)),.string (bigS (sz n2)),.bool (ng n2),.int .u64 (lowN m2),.string (bigS m2)]→Calls Tryz.prog 53 #[p2V n0 m0 n1 m1,p2V n0 m0 n1 m1,.func (.func 55) #[] #[.pointer (some ⟨g,0,none⟩)]] w (Ret w (p2V r0 d0 r1 d1))) (w:World):Calls Tryz.prog 30 #[p2V n0 m0 n1 m1,frV n2 m2] w (Ret w (p2V r0 d0 r1 d1)):=by
 have h:=Lib.hid h
 go_enter Tryz.func30,Tryz.ntmps30
 go_wp2_with fail
 (refine(h.out _ _ (by(with_reducible (repeat' (first|(refine VB.new' ?_;exact(by first|omega|(simp;done)|(simp;omega)))|apply VB.put2|apply VB.put3|apply VB.put5|refine VB.drew ?_|refine VB.far ?_ ?_ _|refine VB.alloc ?_ _|omega|(simp;done)|(simp;omega)))))).mono ?_;rintro e w1 ⟨rfl,hg1⟩;(try (with_reducible replace hg1:=Gr.of_drew hg1));have hsz1:=hg1.size;(try simp at hsz1);have hz1_0:w.heap.size<w1.heap.size:=(by omega);have hz1_1:w.heap.size+1<w1.heap.size:=(by omega);have hz1_2:w.heap.size+1+1<w1.heap.size:=(by omega);obtain ⟨hc1,hf1⟩:=hg1.cells;have HG1:=Lib.hid hg1;clear hg1)
 go_wp2
 refine ret_row (g:=w.heap.size+1+1) Tryz.results30 rfl (VB.set (cs:= [.int .u64 0,.string ⟨#[]⟩,.bool false,.int .u64 0,.string ⟨#[]⟩,.int .u64 0,.string ⟨#[]⟩,.bool false,.int .u64 0,.string ⟨#[]⟩]) ?_ [.int .u64 (lowN (sz r0)),.string (bigS (sz r0)),.bool (ng r0),.int .u64 (lowN d0),.string (bigS d0),.int .u64 (lowN (sz r1)),.string (bigS (sz r1)),.bool (ng r1),.int .u64 (lowN d1),.string (bigS d1)] rfl) Tryz.underlying55 rfl info_Point rfl ⟨rfl,?_⟩
 ·(with_reducible (repeat' (first|(refine VB.new' ?_;exact(by first|omega|(simp;done)|(simp;omega)))|apply VB.put2|apply VB.put3|apply VB.put5|refine VB.drew ?_|refine VB.far ?_ ?_ _|refine VB.alloc ?_ _|refine VB.gr ?_ HG1.out ?_|omega|(simp;done)|(simp;omega))))
 ·(with_reducible (repeat' (first|exact Gr.refl _ _|refine Gr.drew ?_|refine Gr.setCell ?_ ?_ _|refine Gr.alloc ?_ ?_ _|refine Gr.trans ?_ (Gr.mono HG1.out ?_)|omega|(simp;done)|(simp;omega))))
set_option maxRecDepth 20000 in
set_option maxHeartbeats 4000000 in
theorem half_raw {n:Int} {m:Nat} (h:∀w,Calls Tryz.prog 28 #[.int .i64 1,.int .i64 2] w (Ret w (.tuple #[frV n m,.int .i64 0]))) (w:World):Calls Tryz.prog 43 #[] w (Ret w (frV n m)):=by
 have h:=Lib.hid h
 go_enter Tryz.func43,Tryz.ntmps43
 go_wp2_with fail
 (refine(h.out _).mono ?_;rintro e w1 ⟨rfl,hg1⟩;(try (with_reducible replace hg1:=Gr.of_drew hg1));have hsz1:=hg1.size;(try simp at hsz1);have hz1_0:w.heap.size<w1.heap.size:=(by omega);obtain ⟨hc1,hf1⟩:=hg1.cells;have HG1:=Lib.hid hg1;clear hg1)
 go_wp2
 refine ret_row (g:=w.heap.size) Tryz.results43 rfl (VB.alloc (VB.set (cs:= [.int .u64 0,.string ⟨#[]⟩,.bool false,.int .u64 0,.string ⟨#[]⟩]) ?_ [.int .u64 (lowN (sz n)),.string (bigS (sz n)),.bool (ng n),.int .u64 (lowN m),.string (bigS m)] rfl) _) Tryz.underlying53 rfl info_Frac rfl ⟨rfl,?_⟩
 ·(with_reducible (repeat' (first|(refine VB.new' ?_;exact(by first|omega|(simp;done)|(simp;omega)))|apply VB.put2|apply VB.put3|apply VB.put5|refine VB.drew ?_|refine VB.far ?_ ?_ _|refine VB.alloc ?_ _|refine VB.gr ?_ HG1.out ?_|omega|(simp;done)|(simp;omega))))
 ·(with_reducible (repeat' (first|exact Gr.refl _ _|refine Gr.drew ?_|refine Gr.setCell ?_ ?_ _|refine Gr.alloc ?_ ?_ _|refine Gr.trans ?_ (Gr.mono HG1.out ?_)|omega|(simp;done)|(simp;omega))))
set_option maxRecDepth 20000 in
set_option maxHeartbeats 4000000 in
theorem PtMid_raw {n0 n1 n2 n3:Int} {m0 m1 m2 m3:Nat} {a0 a1 r0 r1 n:Int} {b0 b1 d0 d1 m:Nat} (h1:∀w,Calls Tryz.prog 29 #[p2V n0 m0 n1 m1,p2V n2 m2 n3 m3] w (Ret w (p2V a0 b0 a1 b1))) (h2:∀w,Calls Tryz.prog 43 #[] w (Ret w (frV n m))) (h3:∀w,Calls Tryz.prog 30 #[p2V a0 b0 a1 b1,frV n m] w (Ret w (p2V r0 d0 r1 d1))) (w:World):Calls Tryz.prog 17 #[p2V n0 m0 n1 m1,p2V n2 m2 n3 m3] w (Ret w (p2V r0 d0 r1 d1)):=by
 have h1:=Lib.hid h1
 have h2:=Lib.hid h2
 have h3:=Lib.hid h3
 go_enter Tryz.func17,Tryz.ntmps17
 go_wp2_with fail
 (refine(h1.out _).mono ?_;rintro e w1 ⟨rfl,hg1⟩;(try (with_reducible replace hg1:=Gr.of_drew hg1));have hsz1:=hg1.size;(try simp at hsz1);have hz1_0:w.heap.size<w1.heap.size:=(by omega);have hz1_1:w.heap.size+1<w1.heap.size:=(by omega);have hz1_2:w.heap.size+1+1<w1.heap.size:=(by omega);obtain ⟨hc1,hf1⟩:=hg1.cells;have HG1:=Lib.hid hg1;clear hg1)
 go_wp2_with fail
 (refine(h2.out _).mono ?_;rintro e w2 ⟨rfl,hg2⟩;(try (with_reducible replace hg2:=Gr.of_drew hg2));have hsz2:=hg2.size;(try simp at hsz2);have hz2_0:w.heap.size<w2.heap.size:=(by omega);have hz2_1:w.heap.size+1<w2.heap.size:=(by omega);have hz2_2:w.heap.size+1+1<w2.heap.size:=(by omega);obtain ⟨hc2,hf2⟩:=hg2.cells;have HG2:=Lib.hid hg2;clear hg2)
 go_wp2_with fail
 (refine(h3.out _).mono ?_;rintro e w3 ⟨rfl,hg3⟩;(try (with_reducible replace hg3:=Gr.of_drew hg3));have hsz3:=hg3.size;(try simp at hsz3);have hz3_0:w.heap.size<w3.heap.size:=(by omega);have hz3_1:w.heap.size+1<w3.heap.size:=(by omega);have hz3_2:w.heap.size+1+1<w3.heap.size:=(by omega);obtain ⟨hc3,hf3⟩:=hg3.cells;have HG3:=Lib.hid hg3;clear hg3)
 go_wp2
 refine ret_row (g:=w.heap.size+1+1) Tryz.results17 rfl (VB.set (cs:= [.int .u64 0,.string ⟨#[]⟩,.bool false,.int .u64 0,.string ⟨#[]⟩,.int .u64 0,.string ⟨#[]⟩,.bool false,.int .u64 0,.string ⟨#[]⟩]) ?_ [.int .u64 (lowN (sz r0)),.string (bigS (sz r0)),.bool (ng r0),.int .u64 (lowN d0),.string (bigS d0),.int .u64 (lowN (sz r1)),.string (bigS (sz r1)),.bool (ng r1),.int .u64 (lowN d1),.string (bigS d1)] rfl) Tryz.underlying55 rfl info_Point rfl ⟨rfl,?_⟩
 ·(with_reducible (repeat' (first|(refine VB.new' ?_;exact(by first|omega|(simp;done)|(simp;omega)))|apply VB.put2|apply VB.put3|apply VB.put5|refine VB.drew ?_|refine VB.far ?_ ?_ _|refine VB.alloc ?_ _|refine VB.gr ?_ HG3.out ?_|refine VB.gr ?_ HG2.out ?_|refine VB.gr ?_ HG1.out ?_|omega|(simp;done)|(simp;omega))))
 ·(with_reducible (repeat' (first|exact Gr.refl _ _|refine Gr.drew ?_|refine Gr.setCell ?_ ?_ _|refine Gr.alloc ?_ ?_ _|refine Gr.trans ?_ (Gr.mono HG3.out ?_)|refine Gr.trans ?_ (Gr.mono HG2.out ?_)|refine Gr.trans ?_ (Gr.mono HG1.out ?_)|omega|(simp;done)|(simp;omega))))
def midP (a b:Pt):Pt:=⟨(a.x+b.x)*(1 / 2),(a.y+b.y)*(1 / 2)⟩
theorem pt_Mid (a b:Pt) (w:World) (ha:hp a≤1000000000) (hb:hp b≤1000000000):Calls Tryz.prog 17 #[pV a,pV b] w (Ret w (pV (midP a b))):=by
 unfold hp at ha hb
 have h1:=hw_add a.x b.x
 have h2:=hw_add a.y b.y
 have hh:hw (1 / 2:Rat)≤10:=by decide+kernel
 have h12:(1 / 2:Rat)=((1:Int):Rat) / ((2:Int):Rat):=by decide+kernel
 refine PtMid_raw (fun w=>PtAdd_raw (fun w=>bothA_raw (fun w=>fr_Add a.x b.x w (by omega) (by omega)) (fun w=>fr_Add a.y b.y w (by omega) (by omega)) w) w)
  (n:=(1 / 2:Rat).num) (m:=fm (1 / 2)) (fun w=>half_raw (fun w=>?_) w)
  (fun w=>PtScale_raw (fun g w hv=>bothS_raw g w (fun W hW=>Scale1_raw g W (Nat.lt_of_lt_of_le hv.lt hW.size) (hv.gr hW hv.lt) (fun w=>fr_Mul (a.x+b.x) (1 / 2) w (by omega) (by omega))) (fun W hW=>Scale1_raw g W (Nat.lt_of_lt_of_le hv.lt hW.size) (hv.gr hW hv.lt) (fun w=>fr_Mul (a.y+b.y) (1 / 2) w (by omega) (by omega)))) w) w
 have h:=fr_Of 1 2 w (by omega) (by omega) (by omega) (by omega) (by omega)
 rw [←h12]at h
 exact h
theorem p_Of (a b:Int) (d e:Nat) (w:World) (h1: -9223372036854775808≤a) (h2:a≤9223372036854775807) (h3: -9223372036854775808≤b) (h4:b≤9223372036854775807) (hd:d<4294967296) (he:e<4294967296):Calls Tryz.prog 14 #[.agg #[.int .i64 a,.int .u32 (d:Int),.int .i64 b,.int .u32 (e:Int)]] w (Ret w (pV ⟨qQ a d,qQ b e⟩)):=
 POf_raw (fun w=>q_Of a d w h1 h2 hd) (fun w=>q_Of b e w h3 h4 he) w
end Go.Proofs.YtjijceliboaeaaaGreatDoor
