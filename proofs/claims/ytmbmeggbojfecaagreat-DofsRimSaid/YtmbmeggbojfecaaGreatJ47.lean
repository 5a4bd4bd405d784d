/-
  Part 47 of the proof: PtD PtE GridE GridF GridG.
-/
import Derived.Test.YtmbmeggbojfecaaGreatJ33
import Derived.Test.YtmbmeggbojfecaaGreatJ24
import Derived.Test.YtmbmeggbojfecaaGreatJ38
import Derived.Test.YtmbmeggbojfecaaGreatJ46
import Derived.Test.YtmbmeggbojfecaaGreatJ42
set_option linter.unusedSimpArgs false
set_option linter.unusedVariables false
namespace Go.Proofs.YtmbmeggbojfecaaGreat
open Go.RowKit Gus Go.Maps
set_option maxRecDepth 20000 in
set_option maxHeartbeats 4000000 in
theorem least_true {n0 n1 n2 n3:Int} {m0 m1 m2 m3:Nat} (g:Nat) (w:World) (hc:VB w g [.int .u64 (lowN (sz n2)),.string (bigS (sz n2)),.bool (ng n2),.int .u64 (lowN m2),.string (bigS m2),.int .u64 (lowN (sz n3)),.string (bigS (sz n3)),.bool (ng n3),.int .u64 (lowN m3),.string (bigS m3)]) (h:∀w,Calls Tryz.prog 34 #[p2V n2 m2 n3 m3,p2V n0 m0 n1 m1] w (Ret w (.bool true))):Calls Tryz.prog 35 #[p2V n0 m0 n1 m1,.slice (some ⟨g,0,none⟩) 1 1] w (Ret w (p2V n2 m2 n3 m3)):=by
 have h:=Lib.hid h
 have hg:=hc.lt
 have hg1:g<w.heap.size+1:=by omega
 have hg2:g<w.heap.size+1+1:=by omega
 obtain ⟨c0,c1,c2,c3,c4,c5,c6,c7,c8,c9⟩:(w.cell? ⟨g,0,none⟩=some (.int .u64 (lowN (sz n2)))∧w.cell? ⟨g,1,none⟩=some (.string (bigS (sz n2)))∧w.cell? ⟨g,2,none⟩=some (.bool (ng n2))∧w.cell? ⟨g,3,none⟩=some (.int .u64 (lowN m2))∧w.cell? ⟨g,4,none⟩=some (.string (bigS m2))∧w.cell? ⟨g,5,none⟩=some (.int .u64 (lowN (sz n3)))∧w.cell? ⟨g,6,none⟩=some (.string (bigS (sz n3)))∧w.cell? ⟨g,7,none⟩=some (.bool (ng n3))∧w.cell? ⟨g,8,none⟩=some (.int .u64 (lowN m3))∧w.cell? ⟨g,9,none⟩=some (.string (bigS m3))):=⟨hc.c 0 _ rfl,hc.c 1 _ rfl,hc.c 2 _ rfl,hc.c 3 _ rfl,hc.c 4 _ rfl,hc.c 5 _ rfl,hc.c 6 _ rfl,hc.c 7 _ rfl,hc.c 8 _ rfl,hc.c 9 _ rfl⟩
 go_enter Tryz.func35,Tryz.ntmps35
 go_wp2_with fail
 refine wp_loop_rounds 2 ?_
 rw [rounds_succ]
 go_wp2_with fail
 (refine(h.out _).mono ?_;rintro e w1 ⟨rfl,hg1⟩;(try (with_reducible replace hg1:=Gr.of_drew hg1));have hsz1:=hg1.size;(try simp at hsz1);have hz1_0:w.heap.size<w1.heap.size:=(by omega);have hz1_1:w.heap.size+1<w1.heap.size:=(by omega);have hz1_2:w.heap.size+1+1<w1.heap.size:=(by omega);obtain ⟨hc1,hf1⟩:=hg1.cells;have HG1:=Lib.hid hg1;clear hg1)
 have HV0:=Lib.hid (show VB w1 w.heap.size [.int .u64 (lowN (sz n0)),.string (bigS (sz n0)),.bool (ng n0),.int .u64 (lowN m0),.string (bigS m0),.int .u64 (lowN (sz n1)),.string (bigS (sz n1)),.bool (ng n1),.int .u64 (lowN m1),.string (bigS m1)]from by(with_reducible (repeat' (first|(refine VB.new' ?_;exact(by first|omega|(simp;done)|(simp;omega)))|apply VB.put2|apply VB.put3|apply VB.put5|refine VB.drew ?_|refine VB.far ?_ ?_ _|refine VB.alloc ?_ _|refine VB.gr ?_ HG1.out ?_|omega|(simp;done)|(simp;omega)))))
 have HV1:=Lib.hid (show VB w1 (w.heap.size+1) [.int .u64 0,.string ⟨#[]⟩,.bool false,.int .u64 0,.string ⟨#[]⟩,.int .u64 0,.string ⟨#[]⟩,.bool false,.int .u64 0,.string ⟨#[]⟩]from by(with_reducible (repeat' (first|(refine VB.new' ?_;exact(by first|omega|(simp;done)|(simp;omega)))|apply VB.put2|apply VB.put3|apply VB.put5|refine VB.drew ?_|refine VB.far ?_ ?_ _|refine VB.alloc ?_ _|refine VB.gr ?_ HG1.out ?_|omega|(simp;done)|(simp;omega)))))
 have HV6:=Lib.hid (show VB w1 (w.heap.size+1+1) [.int .u64 (lowN (sz n2)),.string (bigS (sz n2)),.bool (ng n2),.int .u64 (lowN m2),.string (bigS m2),.int .u64 (lowN (sz n3)),.string (bigS (sz n3)),.bool (ng n3),.int .u64 (lowN m3),.string (bigS m3)]from by(with_reducible (repeat' (first|(refine VB.new' ?_;exact(by first|omega|(simp;done)|(simp;omega)))|apply VB.put2|apply VB.put3|apply VB.put5|refine VB.drew ?_|refine VB.far ?_ ?_ _|refine VB.alloc ?_ _|refine VB.gr ?_ HG1.out ?_|omega|(simp;done)|(simp;omega)))))
 have HGZ:=Lib.hid (show Gr w.heap.size w w1 from by(with_reducible (repeat' (first|exact Gr.refl _ _|refine Gr.drew ?_|refine Gr.setCell ?_ ?_ _|refine Gr.alloc ?_ ?_ _|refine Gr.trans ?_ (Gr.mono HG1.out ?_)|omega|(simp;done)|(simp;omega)))))
 clear hc1 hf1 HG1
 obtain ⟨d0,d1,d2,d3,d4,d5,d6,d7,d8,d9⟩:(w1.cell? ⟨w.heap.size+1+1,0,none⟩=some (.int .u64 (lowN (sz n2)))∧w1.cell? ⟨w.heap.size+1+1,1,none⟩=some (.string (bigS (sz n2)))∧w1.cell? ⟨w.heap.size+1+1,2,none⟩=some (.bool (ng n2))∧w1.cell? ⟨w.heap.size+1+1,3,none⟩=some (.int .u64 (lowN m2))∧w1.cell? ⟨w.heap.size+1+1,4,none⟩=some (.string (bigS m2))∧w1.cell? ⟨w.heap.size+1+1,5,none⟩=some (.int .u64 (lowN (sz n3)))∧w1.cell? ⟨w.heap.size+1+1,6,none⟩=some (.string (bigS (sz n3)))∧w1.cell? ⟨w.heap.size+1+1,7,none⟩=some (.bool (ng n3))∧w1.cell? ⟨w.heap.size+1+1,8,none⟩=some (.int .u64 (lowN m3))∧w1.cell? ⟨w.heap.size+1+1,9,none⟩=some (.string (bigS m3))):=⟨HV6.out.c 0 _ rfl,HV6.out.c 1 _ rfl,HV6.out.c 2 _ rfl,HV6.out.c 3 _ rfl,HV6.out.c 4 _ rfl,HV6.out.c 5 _ rfl,HV6.out.c 6 _ rfl,HV6.out.c 7 _ rfl,HV6.out.c 8 _ rfl,HV6.out.c 9 _ rfl⟩
 go_upto_region 5 with fail
 apply wp_region_lit
 refine wpList_plain rfl (fun K hK=>?_)
 go_simp
 (try dsimp only)
 refine hK _ _ ?_
 clear hK K
 try simp only [pS]
 refine wpList_plain rfl (fun K hK=>?_)
 refine wp_store_mid 57 _ _ rfl (w.heap.size) 0 (List.toArray [.int .u64 (lowN (sz n2)),.string (bigS (sz n2)),.bool (ng n2),.int .u64 (lowN m2),.string (bigS m2),.int .u64 (lowN (sz n3)),.string (bigS (sz n3)),.bool (ng n3),.int .u64 (lowN m3),.string (bigS m3)]) rfl rfl (VB.there (cs:= [.int .u64 (lowN (sz n0)),.string (bigS (sz n0)),.bool (ng n0),.int .u64 (lowN m0),.string (bigS m0),.int .u64 (lowN (sz n1)),.string (bigS (sz n1)),.bool (ng n1),.int .u64 (lowN m1),.string (bigS m1)]) HV0.out) info_Point (by simp [Value.oneCell']) ?_
 refine hK _ _ ?_
 clear hK K
 try simp only [pS]
 (try simp only [List.toList_toArray])
 clear d0 d1 d2 d3 d4 d5 d6 d7 d8 d9
 have HW0:=Lib.hid (show VB (w1.setCells w.heap.size 0 [.int .u64 (lowN (sz n2)),.string (bigS (sz n2)),.bool (ng n2),.int .u64 (lowN m2),.string (bigS m2),.int .u64 (lowN (sz n3)),.string (bigS (sz n3)),.bool (ng n3),.int .u64 (lowN m3),.string (bigS m3)]) w.heap.size [.int .u64 (lowN (sz n2)),.string (bigS (sz n2)),.bool (ng n2),.int .u64 (lowN m2),.string (bigS m2),.int .u64 (lowN (sz n3)),.string (bigS (sz n3)),.bool (ng n3),.int .u64 (lowN m3),.string (bigS m3)]from HV0.out.set _ rfl)
 have HW1:=Lib.hid (show VB (w1.setCells w.heap.size 0 [.int .u64 (lowN (sz n2)),.string (bigS (sz n2)),.bool (ng n2),.int .u64 (lowN m2),.string (bigS m2),.int .u64 (lowN (sz n3)),.string (bigS (sz n3)),.bool (ng n3),.int .u64 (lowN m3),.string (bigS m3)]) (w.heap.size+1) [.int .u64 0,.string ⟨#[]⟩,.bool false,.int .u64 0,.string ⟨#[]⟩,.int .u64 0,.string ⟨#[]⟩,.bool false,.int .u64 0,.string ⟨#[]⟩]from HV1.out.fars (by omega) _ _)
 have HGW:=Lib.hid (show Gr w.heap.size w (w1.setCells w.heap.size 0 [.int .u64 (lowN (sz n2)),.string (bigS (sz n2)),.bool (ng n2),.int .u64 (lowN m2),.string (bigS m2),.int .u64 (lowN (sz n3)),.string (bigS (sz n3)),.bool (ng n3),.int .u64 (lowN m3),.string (bigS m3)])from Gr.sets (Nat.le_refl _) _ _ HGZ.out)
 generalize w1.setCells w.heap.size 0 [.int .u64 (lowN (sz n2)),.string (bigS (sz n2)),.bool (ng n2),.int .u64 (lowN m2),.string (bigS m2),.int .u64 (lowN (sz n3)),.string (bigS (sz n3)),.bool (ng n3),.int .u64 (lowN m3),.string (bigS m3)]=w2 at *
 go_wp2_with fail
 rw [rounds_succ]
 go_upto_region 7 with fail
 obtain ⟨d0,d1,d2,d3,d4,d5,d6,d7,d8,d9⟩:(w2.cell? ⟨w.heap.size,0,none⟩=some (.int .u64 (lowN (sz n2)))∧w2.cell? ⟨w.heap.size,1,none⟩=some (.string (bigS (sz n2)))∧w2.cell? ⟨w.heap.size,2,none⟩=some (.bool (ng n2))∧w2.cell? ⟨w.heap.size,3,none⟩=some (.int .u64 (lowN m2))∧w2.cell? ⟨w.heap.size,4,none⟩=some (.string (bigS m2))∧w2.cell? ⟨w.heap.size,5,none⟩=some (.int .u64 (lowN (sz n3)))∧w2.cell? ⟨w.heap.size,6,none⟩=some (.string (bigS (sz n3)))∧w2.cell? ⟨w.heap.size,7,none⟩=some (.bool (ng n3))∧w2.cell? ⟨w.heap.size,8,none⟩=some (.int .u64 (lowN m3))∧w2.cell? ⟨w.heap.size,9,none⟩=some (.string (bigS m3))):=⟨HW0.out.c 0 _ rfl,HW0.out.c 1 _ rfl,HW0.out.c 2 _ rfl,HW0.out.c 3 _ rfl,HW0.out.c 4 _ rfl,HW0.out.c 5 _ rfl,HW0.out.c 6 _ rfl,HW0.out.c 7 _ rfl,HW0.out.c 8 _ rfl,HW0.out.c 9 _ rfl⟩
 apply wp_region_lit
 refine wpList_plain rfl (fun K hK=>?_)
 go_simp
 (try dsimp only)
 refine hK _ _ ?_
 clear hK K
 try simp only [pS]
 refine wpList_plain rfl (fun K hK=>?_)
 refine wp_store_mid 57 _ _ rfl (w.heap.size+1) 0 (List.toArray [.int .u64 (lowN (sz n2)),.string (bigS (sz n2)),.bool (ng n2),.int .u64 (lowN m2),.string (bigS m2),.int .u64 (lowN (sz n3)),.string (bigS (sz n3)),.bool (ng n3),.int .u64 (lowN m3),.string (bigS m3)]) rfl rfl (VB.there (cs:= [.int .u64 0,.string ⟨#[]⟩,.bool false,.int .u64 0,.string ⟨#[]⟩,.int .u64 0,.string ⟨#[]⟩,.bool false,.int .u64 0,.string ⟨#[]⟩]) HW1.out) info_Point (by simp [Value.oneCell']) ?_
 refine hK _ _ ?_
 clear hK K
 try simp only [pS]
 (try simp only [List.toList_toArray])
 go_wp2
 refine ret_row (g:=w.heap.size+1) Tryz.results35 rfl (VB.set (cs:= [.int .u64 0,.string ⟨#[]⟩,.bool false,.int .u64 0,.string ⟨#[]⟩,.int .u64 0,.string ⟨#[]⟩,.bool false,.int .u64 0,.string ⟨#[]⟩]) ?_ [.int .u64 (lowN (sz n2)),.string (bigS (sz n2)),.bool (ng n2),.int .u64 (lowN m2),.string (bigS m2),.int .u64 (lowN (sz n3)),.string (bigS (sz n3)),.bool (ng n3),.int .u64 (lowN m3),.string (bigS m3)] rfl) Tryz.underlying57 rfl info_Point rfl ⟨rfl,?_⟩
 ·exact HW1.out
 ·exact Gr.sets (Nat.le_succ _) _ _ HGW.out
set_option maxRecDepth 20000 in
set_option maxHeartbeats 4000000 in
theorem least_false {n0 n1 n2 n3:Int} {m0 m1 m2 m3:Nat} (g:Nat) (w:World) (hc:VB w g [.int .u64 (lowN (sz n2)),.string (bigS (sz n2)),.bool (ng n2),.int .u64 (lowN m2),.string (bigS m2),.int .u64 (lowN (sz n3)),.string (bigS (sz n3)),.bool (ng n3),.int .u64 (lowN m3),.string (bigS m3)]) (h:∀w,Calls Tryz.prog 34 #[p2V n2 m2 n3 m3,p2V n0 m0 n1 m1] w (Ret w (.bool false))):Calls Tryz.prog 35 #[p2V n0 m0 n1 m1,.slice (some ⟨g,0,none⟩) 1 1] w (Ret w (p2V n0 m0 n1 m1)):=by
 have h:=Lib.hid h
 have hg:=hc.lt
 have hg1:g<w.heap.size+1:=by omega
 have hg2:g<w.heap.size+1+1:=by omega
 obtain ⟨c0,c1,c2,c3,c4,c5,c6,c7,c8,c9⟩:(w.cell? ⟨g,0,none⟩=some (.int .u64 (lowN (sz n2)))∧w.cell? ⟨g,1,none⟩=some (.string (bigS (sz n2)))∧w.cell? ⟨g,2,none⟩=some (.bool (ng n2))∧w.cell? ⟨g,3,none⟩=some (.int .u64 (lowN m2))∧w.cell? ⟨g,4,none⟩=some (.string (bigS m2))∧w.cell? ⟨g,5,none⟩=some (.int .u64 (lowN (sz n3)))∧w.cell? ⟨g,6,none⟩=some (.string (bigS (sz n3)))∧w.cell? ⟨g,7,none⟩=some (.bool (ng n3))∧w.cell? ⟨g,8,none⟩=some (.int .u64 (lowN m3))∧w.cell? ⟨g,9,none⟩=some (.string (bigS m3))):=⟨hc.c 0 _ rfl,hc.c 1 _ rfl,hc.c 2 _ rfl,hc.c 3 _ rfl,hc.c 4 _ rfl,hc.c 5 _ rfl,hc.c 6 _ rfl,hc.c 7 _ rfl,hc.c 8 _ rfl,hc.c 9 _ rfl⟩
 go_enter Tryz.func35,Tryz.ntmps35
 go_wp2_with fail
 refine wp_loop_rounds 2 ?_
 rw [rounds_succ]
 go_wp2_with fail
 (refine(h.out _).mono ?_;rintro e w1 ⟨rfl,hg1⟩;(try (with_reducible replace hg1:=Gr.of_drew hg1));have hsz1:=hg1.size;(try simp at hsz1);have hz1_0:w.heap.size<w1.heap.size:=(by omega);have hz1_1:w.heap.size+1<w1.heap.size:=(by omega);have hz1_2:w.heap.size+1+1<w1.heap.size:=(by omega);obtain ⟨hc1,hf1⟩:=hg1.cells;have HG1:=Lib.hid hg1;clear hg1)
 have HV0:=Lib.hid (show VB w1 w.heap.size [.int .u64 (lowN (sz n0)),.string (bigS (sz n0)),.bool (ng n0),.int .u64 (lowN m0),.string (bigS m0),.int .u64 (lowN (sz n1)),.string (bigS (sz n1)),.bool (ng n1),.int .u64 (lowN m1),.string (bigS m1)]from by(with_reducible (repeat' (first|(refine VB.new' ?_;exact(by first|omega|(simp;done)|(simp;omega)))|apply VB.put2|apply VB.put3|apply VB.put5|refine VB.drew ?_|refine VB.far ?_ ?_ _|refine VB.alloc ?_ _|refine VB.gr ?_ HG1.out ?_|omega|(simp;done)|(simp;omega)))))
 have HV1:=Lib.hid (show VB w1 (w.heap.size+1) [.int .u64 0,.string ⟨#[]⟩,.bool false,.int .u64 0,.string ⟨#[]⟩,.int .u64 0,.string ⟨#[]⟩,.bool false,.int .u64 0,.string ⟨#[]⟩]from by(with_reducible (repeat' (first|(refine VB.new' ?_;exact(by first|omega|(simp;done)|(simp;omega)))|apply VB.put2|apply VB.put3|apply VB.put5|refine VB.drew ?_|refine VB.far ?_ ?_ _|refine VB.alloc ?_ _|refine VB.gr ?_ HG1.out ?_|omega|(simp;done)|(simp;omega)))))
 have HV6:=Lib.hid (show VB w1 (w.heap.size+1+1) [.int .u64 (lowN (sz n2)),.string (bigS (sz n2)),.bool (ng n2),.int .u64 (lowN m2),.string (bigS m2),.int .u64 (lowN (sz n3)),.string (bigS (sz n3)),.bool (ng n3),.int .u64 (lowN m3),.string (bigS m3)]from by(with_reducible (repeat' (first|(refine VB.new' ?_;exact(by first|omega|(simp;done)|(simp;omega)))|apply VB.put2|apply VB.put3|apply VB.put5|refine VB.drew ?_|refine VB.far ?_ ?_ _|refine VB.alloc ?_ _|refine VB.gr ?_ HG1.out ?_|omega|(simp;done)|(simp;omega)))))
 have HGZ:=Lib.hid (show Gr w.heap.size w w1 from by(with_reducible (repeat' (first|exact Gr.refl _ _|refine Gr.drew ?_|refine Gr.setCell ?_ ?_ _|refine Gr.alloc ?_ ?_ _|refine Gr.trans ?_ (Gr.mono HG1.out ?_)|omega|(simp;done)|(simp;omega)))))
 clear hc1 hf1 HG1
 have HW0:=HV0
 have HW1:=HV1
 have HGW:=HGZ
 go_wp2_with fail
 rw [rounds_succ]
 go_upto_region 7 with fail
 obtain ⟨d0,d1,d2,d3,d4,d5,d6,d7,d8,d9⟩:(w1.cell? ⟨w.heap.size,0,none⟩=some (.int .u64 (lowN (sz n0)))∧w1.cell? ⟨w.heap.size,1,none⟩=some (.string (bigS (sz n0)))∧w1.cell? ⟨w.heap.size,2,none⟩=some (.bool (ng n0))∧w1.cell? ⟨w.heap.size,3,none⟩=some (.int .u64 (lowN m0))∧w1.cell? ⟨w.heap.size,4,none⟩=some (.string (bigS m0))∧w1.cell? ⟨w.heap.size,5,none⟩=some (.int .u64 (lowN (sz n1)))∧w1.cell? ⟨w.heap.size,6,none⟩=some (.string (bigS (sz n1)))∧w1.cell? ⟨w.heap.size,7,none⟩=some (.bool (ng n1))∧w1.cell? ⟨w.heap.size,8,none⟩=some (.int .u64 (lowN m1))∧w1.cell? ⟨w.heap.size,9,none⟩=some (.string (bigS m1))):=⟨HW0.out.c 0 _ rfl,HW0.out.c 1 _ rfl,HW0.out.c 2 _ rfl,HW0.out.c 3 _ rfl,HW0.out.c 4 _ rfl,HW0.out.c 5 _ rfl,HW0.out.c 6 _ rfl,HW0.out.c 7 _ rfl,HW0.out.c 8 _ rfl,HW0.out.c 9 _ rfl⟩
 apply wp_region_lit
 refine wpList_plain rfl (fun K hK=>?_)
 go_simp
 (try dsimp only)
 refine hK _ _ ?_
 clear hK K
 try simp only [pS]
 refine wpList_plain rfl (fun K hK=>?_)
 refine wp_store_mid 57 _ _ rfl (w.heap.size+1) 0 (List.toArray [.int .u64 (lowN (sz n0)),.string (bigS (sz n0)),.bool (ng n0),.int .u64 (lowN m0),.string (bigS m0),.int .u64 (lowN (sz n1)),.string (bigS (sz n1)),.bool (ng n1),.int .u64 (lowN m1),.string (bigS m1)]) rfl rfl (VB.there (cs:= [.int .u64 0,.string ⟨#[]⟩,.bool false,.int .u64 0,.string ⟨#[]⟩,.int .u64 0,.string ⟨#[]⟩,.bool false,.int .u64 0,.string ⟨#[]⟩]) HW1.out) info_Point (by simp [Value.oneCell']) ?_
 refine hK _ _ ?_
 clear hK K
 try simp only [pS]
 (try simp only [List.toList_toArray])
 go_wp2
 refine ret_row (g:=w.heap.size+1) Tryz.results35 rfl (VB.set (cs:= [.int .u64 0,.string ⟨#[]⟩,.bool false,.int .u64 0,.string ⟨#[]⟩,.int .u64 0,.string ⟨#[]⟩,.bool false,.int .u64 0,.string ⟨#[]⟩]) ?_ [.int .u64 (lowN (sz n0)),.string (bigS (sz n0)),.bool (ng n0),.int .u64 (lowN m0),.string (bigS m0),.int .u64 (lowN (sz n1)),.string (bigS (sz n1)),.bool (ng n1),.int .u64 (lowN m1),.string (bigS m1)] rfl) Tryz.underlying57 rfl info_Point rfl ⟨rfl,?_⟩
 ·exact HW1.out
 ·exact Gr.sets (Nat.le_succ _) _ _ HGW.out
set_option maxRecDepth 20000 in
set_option maxHeartbeats 4000000 in
theorem greatest_true {n0 n1 n2 n3:Int} {m0 m1 m2 m3:Nat} (g:Nat) (w:World) (hc:VB w g [.int .u64 (lowN (sz n2)),.string (bigS (sz n2)),.bool (ng n2),.int .u64 (lowN m2),.string (bigS m2),.int .u64 (lowN (sz n3)),.string (bigS (sz n3)),.bool (ng n3),.int .u64 (lowN m3),.string (bigS m3)]) (h:∀w,Calls Tryz.prog 34 #[p2V n0 m0 n1 m1,p2V n2 m2 n3 m3] w (Ret w (.bool true))):Calls Tryz.prog 36 #[p2V n0 m0 n1 m1,.slice (some ⟨g,0,none⟩) 1 1] w (Ret w (p2V n2 m2 n3 m3)):=by
 have h:=Lib.hid h
 have hg:=hc.lt
 have hg1:g<w.heap.size+1:=by omega
 have hg2:g<w.heap.size+1+1:=by omega
 obtain ⟨c0,c1,c2,c3,c4,c5,c6,c7,c8,c9⟩:(w.cell? ⟨g,0,none⟩=some (.int .u64 (lowN (sz n2)))∧w.cell? ⟨g,1,none⟩=some (.string (bigS (sz n2)))∧w.cell? ⟨g,2,none⟩=some (.bool (ng n2))∧w.cell? ⟨g,3,none⟩=some (.int .u64 (lowN m2))∧w.cell? ⟨g,4,none⟩=some (.string (bigS m2))∧w.cell? ⟨g,5,none⟩=some (.int .u64 (lowN (sz n3)))∧w.cell? ⟨g,6,none⟩=some (.string (bigS (sz n3)))∧w.cell? ⟨g,7,none⟩=some (.bool (ng n3))∧w.cell? ⟨g,8,none⟩=some (.int .u64 (lowN m3))∧w.cell? ⟨g,9,none⟩=some (.string (bigS m3))):=⟨hc.c 0 _ rfl,hc.c 1 _ rfl,hc.c 2 _ rfl,hc.c 3 _ rfl,hc.c 4 _ rfl,hc.c 5 _ rfl,hc.c 6 _ rfl,hc.c 7 _ rfl,hc.c 8 _ rfl,hc.c 9 _ rfl⟩
 go_enter Tryz.func36,Tryz.ntmps36
 go_wp2_with fail
 refine wp_loop_rounds 2 ?_
 rw [rounds_succ]
 go_wp2_with fail
 (refine(h.out _).mono ?_;rintro e w1 ⟨rfl,hg1⟩;(try (with_reducible replace hg1:=Gr.of_drew hg1));have hsz1:=hg1.size;(try simp at hsz1);have hz1_0:w.heap.size<w1.heap.size:=(by omega);have hz1_1:w.heap.size+1<w1.heap.size:=(by omega);have hz1_2:w.heap.size+1+1<w1.heap.size:=(by omega);obtain ⟨hc1,hf1⟩:=hg1.cells;have HG1:=Lib.hid hg1;clear hg1)
 have HV0:=Lib.hid (show VB w1 w.heap.size [.int .u64 (lowN (sz n0)),.string (bigS (sz n0)),.bool (ng n0),.int .u64 (lowN m0),.string (bigS m0),.int .u64 (lowN (sz n1)),.string (bigS (sz n1)),.bool (ng n1),.int .u64 (lowN m1),.string (bigS m1)]from by(with_reducible (repeat' (first|(refine VB.new' ?_;exact(by first|omega|(simp;done)|(simp;omega)))|apply VB.put2|apply VB.put3|apply VB.put5|refine VB.drew ?_|refine VB.far ?_ ?_ _|refine VB.alloc ?_ _|refine VB.gr ?_ HG1.out ?_|omega|(simp;done)|(simp;omega)))))
 have HV1:=Lib.hid (show VB w1 (w.heap.size+1) [.int .u64 0,.string ⟨#[]⟩,.bool false,.int .u64 0,.string ⟨#[]⟩,.int .u64 0,.string ⟨#[]⟩,.bool false,.int .u64 0,.string ⟨#[]⟩]from by(with_reducible (repeat' (first|(refine VB.new' ?_;exact(by first|omega|(simp;done)|(simp;omega)))|apply VB.put2|apply VB.put3|apply VB.put5|refine VB.drew ?_|refine VB.far ?_ ?_ _|refine VB.alloc ?_ _|refine VB.gr ?_ HG1.out ?_|omega|(simp;done)|(simp;omega)))))
 have HV6:=Lib.hid (show VB w1 (w.heap.size+1+1) [.int .u64 (lowN (sz n2)),.string (bigS (sz n2)),.bool (ng n2),.int .u64 (lowN m2),.string (bigS m2),.int .u64 (lowN (sz n3)),.string (bigS (sz n3)),.bool (ng n3),.int .u64 (lowN m3),.string (bigS m3)]from by(with_reducible (repeat' (first|(refine VB.new' ?_;exact(by first|omega|(simp;done)|(simp;omega)))|apply VB.put2|apply VB.put3|apply VB.put5|refine VB.drew ?_|refine VB.far ?_ ?_ _|refine VB.alloc ?_ _|refine VB.gr ?_ HG1.out ?_|omega|(simp;done)|(simp;omega)))))
 have HGZ:=Lib.hid (show Gr w.heap.size w w1 from by(with_reducible (repeat' (first|exact Gr.refl _ _|refine Gr.drew ?_|refine Gr.setCell ?_ ?_ _|refine Gr.alloc ?_ ?_ _|refine Gr.trans ?_ (Gr.mono HG1.out ?_)|omega|(simp;done)|(simp;omega)))))
 clear hc1 hf1 HG1
 obtain ⟨d0,d1,d2,d3,d4,d5,d6,d7,d8,d9⟩:(w1.cell? ⟨w.heap.size+1+1,0,none⟩=some (.int .u64 (lowN (sz n2)))∧w1.cell? ⟨w.heap.size+1+1,1,none⟩=some (.string (bigS (sz n2)))∧w1.cell? ⟨w.heap.size+1+1,2,none⟩=some (.bool (ng n2))∧w1.cell? ⟨w.heap.size+1+1,3,none⟩=some (.int .u64 (lowN m2))∧w1.cell? ⟨w.heap.size+1+1,4,none⟩=some (.string (bigS m2))∧w1.cell? ⟨w.heap.size+1+1,5,none⟩=some (.int .u64 (lowN (sz n3)))∧w1.cell? ⟨w.heap.size+1+1,6,none⟩=some (.string (bigS (sz n3)))∧w1.cell? ⟨w.heap.size+1+1,7,none⟩=some (.bool (ng n3))∧w1.cell? ⟨w.heap.size+1+1,8,none⟩=some (.int .u64 (lowN m3))∧w1.cell? ⟨w.heap.size+1+1,9,none⟩=some (.string (bigS m3))):=⟨HV6.out.c 0 _ rfl,HV6.out.c 1 _ rfl,HV6.out.c 2 _ rfl,HV6.out.c 3 _ rfl,HV6.out.c 4 _ rfl,HV6.out.c 5 _ rfl,HV6.out.c 6 _ rfl,HV6.out.c 7 _ rfl,HV6.out.c 8 _ rfl,HV6.out.c 9 _ rfl⟩
 go_upto_region 5 with fail
 apply wp_region_lit
 refine wpList_plain rfl (fun K hK=>?_)
 go_simp
 (try dsimp only)
 refine hK _ _ ?_
 clear hK K
 try simp only [pS]
 refine wpList_plain rfl (fun K hK=>?_)
 refine wp_store_mid 57 _ _ rfl (w.heap.size) 0 (List.toArray [.int .u64 (lowN (sz n2)),.string (bigS (sz n2)),.bool (ng n2),.int .u64 (lowN m2),.string (bigS m2),.int .u64 (lowN (sz n3)),.string (bigS (sz n3)),.bool (ng n3),.int .u64 (lowN m3),.string (bigS m3)]) rfl rfl (VB.there (cs:= [.int .u64 (lowN (sz n0)),.string (bigS (sz n0)),.bool (ng n0),.int .u64 (lowN m0),.string (bigS m0),.int .u64 (lowN (sz n1)),.string (bigS (sz n1)),.bool (ng n1),.int .u64 (lowN m1),.string (bigS m1)]) HV0.out) info_Point (by simp [Value.oneCell']) ?_
 refine hK _ _ ?_
 clear hK K
 try simp only [pS]
 (try simp only [List.toList_toArray])
 clear d0 d1 d2 d3 d4 d5 d6 d7 d8 d9
 have HW0:=Lib.hid (show VB (w1.setCells w.heap.size 0 [.int .u64 (lowN (sz n2)),.string (bigS (sz n2)),.bool (ng n2),.int .u64 (lowN m2),.string (bigS m2),.int .u64 (lowN (sz n3)),.string (bigS (sz n3)),.bool (ng n3),.int .u64 (lowN m3),.string (bigS m3)]) w.heap.size [.int .u64 (lowN (sz n2)),.string (bigS (sz n2)),.bool (ng n2),.int .u64 (lowN m2),.string (bigS m2),.int .u64 (lowN (sz n3)),.string (bigS (sz n3)),.bool (ng n3),.int .u64 (lowN m3),.string (bigS m3)]from HV0.out.set _ rfl)
 have HW1:=Lib.hid (show VB (w1.setCells w.heap.size 0 [.int .u64 (lowN (sz n2)),.string (bigS (sz n2)),.bool (ng n2),.int .u64 (lowN m2),.string (bigS m2),.int .u64 (lowN (sz n3)),.string (bigS (sz n3)),.bool (ng n3),.int .u64 (lowN m3),.string (bigS m3)]) (w.heap.size+1) [.int .u64 0,.string ⟨#[]⟩,.bool false,.int .u64 0,.string ⟨#[]⟩,.int .u64 0,.string ⟨#[]⟩,.bool false,.int .u64 0,.string ⟨#[]⟩]from HV1.out.fars (by omega) _ _)
 have HGW:=Lib.hid (show Gr w.heap.size w (w1.setCells w.heap.size 0 [.int .u64 (lowN (sz n2)),.string (bigS (sz n2)),.bool (ng n2),.int .u64 (lowN m2),.string (bigS m2),.int .u64 (lowN (sz n3)),.string (bigS (sz n3)),.bool (ng n3),.int .u64 (lowN m3),.string (bigS m3)])from Gr.sets (Nat.le_refl _) _ _ HGZ.out)
 generalize w1.setCells w.heap.size 0 [.int .u64 (lowN (sz n2)),.string (bigS (sz n2)),.bool (ng n2),.int .u64 (lowN m2),.string (bigS m2),.int .u64 (lowN (sz n3)),.string (bigS (sz n3)),.bool (ng n3),.int .u64 (lowN m3),.string (bigS m3)]=w2 at *
 go_wp2_with fail
 rw [rounds_succ]
 go_upto_region 7 with fail
 obtain ⟨d0,d1,d2,d3,d4,d5,d6,d7,d8,d9⟩:(w2.cell? ⟨w.heap.size,0,none⟩=some (.int .u64 (lowN (sz n2)))∧w2.cell? ⟨w.heap.size,1,none⟩=some (.string (bigS (sz n2)))∧w2.cell? ⟨w.heap.size,2,none⟩=some (.bool (ng n2))∧w2.cell? ⟨w.heap.size,3,none⟩=some (.int .u64 (lowN m2))∧w2.cell? ⟨w.heap.size,4,none⟩=some (.string (bigS m2))∧w2.cell? ⟨w.heap.size,5,none⟩=some (.int .u64 (lowN (sz n3)))∧w2.cell? ⟨w.heap.size,6,none⟩=some (.string (bigS (sz n3)))∧w2.cell? ⟨w.heap.size,7,none⟩=some (.bool (ng n3))∧w2.cell? ⟨w.heap.size,8,none⟩=some (.int .u64 (lowN m3))∧w2.cell? ⟨w.heap.size,9,none⟩=some (.string (bigS m3))):=⟨HW0.out.c 0 _ rfl,HW0.out.c 1 _ rfl,HW0.out.c 2 _ rfl,HW0.out.c 3 _ rfl,HW0.out.c 4 _ rfl,HW0.out.c 5 _ rfl,HW0.out.c 6 _ rfl,HW0.out.c 7 _ rfl,HW0.out.c 8 _ rfl,HW0.out.c 9 _ rfl⟩
 apply wp_region_lit
 refine wpList_plain rfl (fun K hK=>?_)
 go_simp
 (try dsimp only)
 refine hK _ _ ?_
 clear hK K
 try simp only [pS]
 refine wpList_plain rfl (fun K hK=>?_)
 refine wp_store_mid 57 _ _ rfl (w.heap.size+1) 0 (List.toArray [.int .u64 (lowN (sz n2)),.string (bigS (sz n2)),.bool (ng n2),.int .u64 (lowN m2),.string (bigS m2),.int .u64 (lowN (sz n3)),.string (bigS (sz n3)),.bool (ng n3),.int .u64 (lowN m3),.string (bigS m3)]) rfl rfl (VB.there (cs:= [.int .u64 0,.string ⟨#[]⟩,.bool false,.int .u64 0,.string ⟨#[]⟩,.int .u64 0,.string ⟨#[]⟩,.bool false,.int .u64 0,.string ⟨#[]⟩]) HW1.out) info_Point (by simp [Value.oneCell']) ?_
 refine hK _ _ ?_
 clear hK K
 try simp only [pS]
 (try simp only [List.toList_toArray])
 go_wp2
 refine ret_row (g:=w.heap.size+1) Tryz.results36 rfl (VB.set (cs:= [.int .u64 0,.string ⟨#[]⟩,.bool false,.int .u64 0,.string ⟨#[]⟩,.int .u64 0,.string ⟨#[]⟩,.bool false,.int .u64 0,.string ⟨#[]⟩]) ?_ [.int .u64 (lowN (sz n2)),.string (bigS (sz n2)),.bool (ng n2),.int .u64 (lowN m2),.string (bigS m2),.int .u64 (lowN (sz n3)),.string (bigS (sz n3)),.bool (ng n3),.int .u64 (lowN m3),.string (bigS m3)] rfl) Tryz.underlying57 rfl info_Point rfl ⟨rfl,?_⟩
 ·exact HW1.out
 ·exact Gr.sets (Nat.le_succ _) _ _ HGW.out
set_option maxRecDepth 20000 in
set_option maxHeartbeats 4000000 in
theorem greatest_false {n0 n1 n2 n3:Int} {m0 m1 m2 m3:Nat} (g:Nat) (w:World) (hc:VB w g [.int .u64 (lowN (sz n2)),.string (bigS (sz n2)),.bool (ng n2),.int .u64 (lowN m2),.string (bigS m2),.int .u64 (lowN (sz n3)),.string (bigS (sz n3)),.bool (ng n3),.int .u64 (lowN m3),.string (bigS m3)]) (h:∀w,Calls Tryz.prog 34 #[p2V n0 m0 n1 m1,p2V n2 m2 n3 m3] w (Ret w (.bool false))):Calls Tryz.prog 36 #[p2V n0 m0 n1 m1,.slice (some ⟨g,0,none⟩) 1 1] w (Ret w (p2V n0 m0 n1 m1)):=by
 have h:=Lib.hid h
 have hg:=hc.lt
 have hg1:g<w.heap.size+1:=by omega
 have hg2:g<w.heap.size+1+1:=by omega
 obtain ⟨c0,c1,c2,c3,c4,c5,c6,c7,c8,c9⟩:(w.cell? ⟨g,0,none⟩=some (.int .u64 (lowN (sz n2)))∧w.cell? ⟨g,1,none⟩=some (.string (bigS (sz n2)))∧w.cell? ⟨g,2,none⟩=some (.bool (ng n2))∧w.cell? ⟨g,3,none⟩=some (.int .u64 (lowN m2))∧w.cell? ⟨g,4,none⟩=some (.string (bigS m2))∧w.cell? ⟨g,5,none⟩=some (.int .u64 (lowN (sz n3)))∧w.cell? ⟨g,6,none⟩=some (.string (bigS (sz n3)))∧w.cell? ⟨g,7,none⟩=some (.bool (ng n3))∧w.cell? ⟨g,8,none⟩=some (.int .u64 (lowN m3))∧w.cell? ⟨g,9,none⟩=some (.string (bigS m3))):=⟨hc.c 0 _ rfl,hc.c 1 _ rfl,hc.c 2 _ rfl,hc.c 3 _ rfl,hc.c 4 _ rfl,hc.c 5 _ rfl,hc.c 6 _ rfl,hc.c 7 _ rfl,hc.c 8 _ rfl,hc.c 9 _ rfl⟩
 go_enter Tryz.func36,Tryz.ntmps36
 go_wp2_with fail
 refine wp_loop_rounds 2 ?_
 rw [rounds_succ]
 go_wp2_with fail
 (refine(h.out _).mono ?_;rintro e w1 ⟨rfl,hg1⟩;(try (with_reducible replace hg1:=Gr.of_drew hg1));have hsz1:=hg1.size;(try simp at hsz1);have hz1_0:w.heap.size<w1.heap.size:=(by omega);have hz1_1:w.heap.size+1<w1.heap.size:=(by omega);have hz1_2:w.heap.size+1+1<w1.heap.size:=(by omega);obtain ⟨hc1,hf1⟩:=hg1.cells;have HG1:=Lib.hid hg1;clear hg1)
 have HV0:=Lib.hid (show VB w1 w.heap.size [.int .u64 (lowN (sz n0)),.string (bigS (sz n0)),.bool (ng n0),.int .u64 (lowN m0),.string (bigS m0),.int .u64 (lowN (sz n1)),.string (bigS (sz n1)),.bool (ng n1),.int .u64 (lowN m1),.string (bigS m1)]from by(with_reducible (repeat' (first|(refine VB.new' ?_;exact(by first|omega|(simp;done)|(simp;omega)))|apply VB.put2|apply VB.put3|apply VB.put5|refine VB.drew ?_|refine VB.far ?_ ?_ _|refine VB.alloc ?_ _|refine VB.gr ?_ HG1.out ?_|omega|(simp;done)|(simp;omega)))))
 have HV1:=Lib.hid (show VB w1 (w.heap.size+1) [.int .u64 0,.string ⟨#[]⟩,.bool false,.int .u64 0,.string ⟨#[]⟩,.int .u64 0,.string ⟨#[]⟩,.bool false,.int .u64 0,.string ⟨#[]⟩]from by(with_reducible (repeat' (first|(refine VB.new' ?_;exact(by first|omega|(simp;done)|(simp;omega)))|apply VB.put2|apply VB.put3|apply VB.put5|refine VB.drew ?_|refine VB.far ?_ ?_ _|refine VB.alloc ?_ _|refine VB.gr ?_ HG1.out ?_|omega|(simp;done)|(simp;omega)))))
 have HV6:=Lib.hid (show VB w1 (w.heap.size+1+1) [.int .u64 (lowN (sz n2)),.string (bigS (sz n2)),.bool (ng n2),.int .u64 (lowN m2),.string (bigS m2),.int .u64 (lowN (sz n3)),.string (bigS (sz n3)),.bool (ng n3),.int .u64 (lowN m3),.string (bigS m3)]from by(with_reducible (repeat' (first|(refine VB.new' ?_;exact(by first|omega|(simp;done)|(simp;omega)))|apply VB.put2|apply VB.put3|apply VB.put5|refine VB.drew ?_|refine VB.far ?_ ?_ _|refine VB.alloc ?_ _|refine VB.gr ?_ HG1.out ?_|omega|(simp;done)|(simp;omega)))))
 have HGZ:=Lib.hid (show Gr w.heap.size w w1 from by(with_reducible (repeat' (first|exact Gr.refl _ _|refine Gr.drew ?_|refine Gr.setCell ?_ ?_ _|refine Gr.alloc ?_ ?_ _|refine Gr.trans ?_ (Gr.mono HG1.out ?_)|omega|(simp;done)|(simp;omega)))))
 clear hc1 hf1 HG1
 have HW0:=HV0
 have HW1:=HV1
 have HGW:=HGZ
 go_wp2_with fail
 rw [rounds_succ]
 go_upto_region 7 with fail
 obtain ⟨d0,d1,d2,d3,d4,d5,d6,d7,d8,d9⟩:(w1.cell? ⟨w.heap.size,0,none⟩=some (.int .u64 (lowN (sz n0)))∧w1.cell? ⟨w.heap.size,1,none⟩=some (.string (bigS (sz n0)))∧w1.cell? ⟨w.heap.size,2,none⟩=some (.bool (ng n0))∧w1.cell? ⟨w.heap.size,3,none⟩=some (.int .u64 (lowN m0))∧w1.cell? ⟨w.heap.size,4,none⟩=some (.string (bigS m0))∧w1.cell? ⟨w.heap.size,5,none⟩=some (.int .u64 (lowN (sz n1)))∧w1.cell? ⟨w.heap.size,6,none⟩=some (.string (bigS (sz n1)))∧w1.cell? ⟨w.heap.size,7,none⟩=some (.bool (ng n1))∧w1.cell? ⟨w.heap.size,8,none⟩=some (.int .u64 (lowN m1))∧w1.cell? ⟨w.heap.size,9,none⟩=some (.string (bigS m1))):=⟨HW0.out.c 0 _ rfl,HW0.out.c 1 _ rfl,HW0.out.c 2 _ rfl,HW0.out.c 3 _ rfl,HW0.out.c 4 _ rfl,HW0.out.c 5 _ rfl,HW0.out.c 6 _ rfl,HW0.out.c 7 _ rfl,HW0.out.c 8 _ rfl,HW0.out.c 9 _ rfl⟩
 apply wp_region_lit
 refine wpList_plain rfl (fun K hK=>?_)
 go_simp
 (try dsimp only)
 refine hK _ _ ?_
 clear hK K
 try simp only [pS]
 refine wpList_plain rfl (fun K hK=>?_)
 refine wp_store_mid 57 _ _ rfl (w.heap.size+1) 0 (List.toArray [.int .u64 (lowN (sz n0)),.string (bigS (sz n0)),.bool (ng n0),.int .u64 (lowN m0),.string (bigS m0),.int .u64 (lowN (sz n1)),.string (bigS (sz n1)),.bool (ng n1),.int .u64 (lowN m1),.string (bigS m1)]) rfl rfl (VB.there (cs:= [.int .u64 0,.string ⟨#[]⟩,.bool false,.int .u64 0,.string ⟨#[]⟩,.int .u64 0,.string ⟨#[]⟩,.bool false,.int .u64 0,.string ⟨#[]⟩]) HW1.out) info_Point (by simp [Value.oneCell']) ?_
 refine hK _ _ ?_
 clear hK K
 try simp only [pS]
 (try simp only [List.toList_toArray])
 go_wp2
 refine ret_row (g:=w.heap.size+1) Tryz.results36 rfl (VB.set (cs:= [.int .u64 0,.string ⟨#[]⟩,.bool false,.int .u64 0,.string ⟨#[]⟩,.int .u64 0,.string ⟨#[]⟩,.bool false,.int .u64 0,.string ⟨#[]⟩]) ?_ [.int .u64 (lowN (sz n0)),.string (bigS (sz n0)),.bool (ng n0),.int .u64 (lowN m0),.string (bigS m0),.int .u64 (lowN (sz n1)),.string (bigS (sz n1)),.bool (ng n1),.int .u64 (lowN m1),.string (bigS m1)] rfl) Tryz.underlying57 rfl info_Point rfl ⟨rfl,?_⟩
 ·exact HW1.out
 ·exact Gr.sets (Nat.le_succ _) _ _ HGW.out
set_option maxRecDepth 20000 in
set_option maxHeartbeats 4000000 in
theorem On_rawA {n0 n1 n2 n3 n4 n5:Int} {m0 m1 m2 m3 m4 m5:Nat} {t:Int} (h0:t≠0) (h1:∀w,Calls Tryz.prog 33 #[p2V n0 m0 n1 m1,p2V n2 m2 n3 m3,p2V n4 m4 n5 m5] w (Ret w (.int .i64 t))) (w:World):Calls Tryz.prog 12 #[p2V n0 m0 n1 m1,p2V n2 m2 n3 m3,p2V n4 m4 n5 m5] w (Ret w (.bool false)):=by
 have h1:=Lib.hid h1
 have hb:(t == 0)=false:=by simp [h0]
 go_enter Tryz.func12,Tryz.ntmps12
 go_upto_region 1 with fail
 refine wp_region_held_drew (S:=(fun w'=>w'.cell? ⟨w.heap.size,0,none⟩=some (.int .u64 (lowN (sz n0)))∧w'.cell? ⟨w.heap.size,1,none⟩=some (.string (bigS (sz n0)))∧w'.cell? ⟨w.heap.size,2,none⟩=some (.bool (ng n0))∧w'.cell? ⟨w.heap.size,3,none⟩=some (.int .u64 (lowN m0))∧w'.cell? ⟨w.heap.size,4,none⟩=some (.string (bigS m0))∧w'.cell? ⟨w.heap.size,5,none⟩=some (.int .u64 (lowN (sz n1)))∧w'.cell? ⟨w.heap.size,6,none⟩=some (.string (bigS (sz n1)))∧w'.cell? ⟨w.heap.size,7,none⟩=some (.bool (ng n1))∧w'.cell? ⟨w.heap.size,8,none⟩=some (.int .u64 (lowN m1))∧w'.cell? ⟨w.heap.size,9,none⟩=some (.string (bigS m1))∧w'.cell? ⟨w.heap.size+1,0,none⟩=some (.int .u64 (lowN (sz n2)))∧w'.cell? ⟨w.heap.size+1,1,none⟩=some (.string (bigS (sz n2)))∧w'.cell? ⟨w.heap.size+1,2,none⟩=some (.bool (ng n2))∧w'.cell? ⟨w.heap.size+1,3,none⟩=some (.int .u64 (lowN m2))∧w'.cell? ⟨w.heap.size+1,4,none⟩=some (.string (bigS m2))∧w'.cell? ⟨w.heap.size+1,5,none⟩=some (.int .u64 (lowN (sz n3)))∧w'.cell? ⟨w.heap.size+1,6,none⟩=some (.string (bigS (sz n3)))∧w'.cell? ⟨w.heap.size+1,7,none⟩=some (.bool (ng n3))∧w'.cell? ⟨w.heap.size+1,8,none⟩=some (.int .u64 (lowN m3))∧w'.cell? ⟨w.heap.size+1,9,none⟩=some (.string (bigS m3))∧w'.cell? ⟨w.heap.size+1+1,0,none⟩=some (.int .u64 (lowN (sz n4)))∧w'.cell? ⟨w.heap.size+1+1,1,none⟩=some (.string (bigS (sz n4)))∧w'.cell? ⟨w.heap.size+1+1,2,none⟩=some (.bool (ng n4))∧w'.cell? ⟨w.heap.size+1+1,3,none⟩=some (.int .u64 (lowN m4))∧w'.cell? ⟨w.heap.size+1+1,4,none⟩=some (.string (bigS m4))∧w'.cell? ⟨w.heap.size+1+1,5,none⟩=some (.int .u64 (lowN (sz n5)))∧w'.cell? ⟨w.heap.size+1+1,6,none⟩=some (.string (bigS (sz n5)))∧w'.cell? ⟨w.heap.size+1+1,7,none⟩=some (.bool (ng n5))∧w'.cell? ⟨w.heap.size+1+1,8,none⟩=some (.int .u64 (lowN m5))∧w'.cell? ⟨w.heap.size+1+1,9,none⟩=some (.string (bigS m5)))) (by kernel_rfl) ?_ (fun hHeld=>?_)
 ·simp [go_sem, *]
 refine tk 0 (some 7) (p2V n0 m0 n1 m1) ?_
 try simp only [pS]
 refine tk 1 (some 8) (p2V n2 m2 n3 m3) ?_
 try simp only [pS]
 refine tk 2 (some 9) (p2V n4 m4 n5 m5) ?_
 try simp only [pS]
 refine rd 3 (fun K hK=>?_)
 go_simp
 (refine(h1.out _).mono ?_;rintro e w1 ⟨rfl,hg1⟩;(try (with_reducible replace hg1:=Gr.of_drew hg1));have hsz1:=hg1.size;(try simp at hsz1);have hz1_0:w.heap.size<w1.heap.size:=(by omega);have hz1_1:w.heap.size+1<w1.heap.size:=(by omega);have hz1_2:w.heap.size+1+1<w1.heap.size:=(by omega);obtain ⟨hc1,hf1⟩:=hg1.cells;have HG1:=Lib.hid hg1;clear hg1)
 (try dsimp only)
 refine hK.out _ _ ?_ (fun hQ1=>?_)
 ·(first|exact trivial|((try dsimp only);simp [go_sem, *]))
 clear hK K hHeld
 try simp only [pS]
 refine tk 4 (some 11) (.bool false) ?_
 try simp only [pS]
 refine tk 5 (some 12) (.bool false) ?_
 try simp only [pS]
 refine tu 6 (some 13) (undef) ?_
 try simp only [pS]
 refine tu 7 (some 14) (undef) ?_
 try simp only [pS]
 refine tu 8 (some 15) (undef) ?_
 try simp only [pS]
 refine tu 9 (some 16) (undef) ?_
 try simp only [pS]
 refine tu 10 (some 17) (undef) ?_
 try simp only [pS]
 refine tu 11 (some 18) (undef) ?_
 try simp only [pS]
 refine tu 12 (some 19) (undef) ?_
 try simp only [pS]
 refine tk 13 (some 20) (.bool false) ?_
 try simp only [pS]
 refine tk 14 (some 21) (.bool false) ?_
 try simp only [pS]
 refine tu 15 (some 22) (undef) ?_
 try simp only [pS]
 refine tu 16 (some 23) (undef) ?_
 try simp only [pS]
 refine tu 17 (some 24) (undef) ?_
 try simp only [pS]
 refine tu 18 (some 25) (undef) ?_
 try simp only [pS]
 refine tu 19 (some 26) (undef) ?_
 try simp only [pS]
 refine tu 20 (some 27) (undef) ?_
 try simp only [pS]
 refine tu 21 (some 28) (undef) ?_
 try simp only [pS]
 refine tk 22 (some 29) (.bool false) ?_
 try simp only [pS]
 refine rd 23 (fun K hK=>?_)
 go_simp
 (try dsimp only)
 refine hK.out _ _ ?_ (fun hQ2=>?_)
 ·(first|exact trivial|((try dsimp only);simp [go_sem, *]))
 clear hK K hQ1
 try simp only [pS]
 refine wpAnyH_done (by kernel_rfl) ?_ _
 go_wp2
 go_ret
 exact⟨rfl,by(with_reducible (repeat' (first|exact Gr.refl _ _|refine Gr.drew ?_|refine Gr.setCell ?_ ?_ _|refine Gr.alloc ?_ ?_ _|refine Gr.trans ?_ (Gr.mono HG1.out ?_)|omega|(simp;done)|(simp;omega))))⟩
set_option maxRecDepth 20000 in
set_option maxHeartbeats 4000000 in
theorem On_rawB {n0 n1 n2 n3 n4 n5 n6 n7:Int} {m0 m1 m2 m3 m4 m5 m6 m7:Nat} (h1:∀w,Calls Tryz.prog 33 #[p2V n0 m0 n1 m1,p2V n2 m2 n3 m3,p2V n4 m4 n5 m5] w (Ret w (.int .i64 0))) (h2:∀g w,VB w g [.int .u64 (lowN (sz n2)),.string (bigS (sz n2)),.bool (ng n2),.int .u64 (lowN m2),.string (bigS m2),.int .u64 (lowN (sz n3)),.string (bigS (sz n3)),.bool (ng n3),.int .u64 (lowN m3),.string (bigS m3)]→Calls Tryz.prog 35 #[p2V n0 m0 n1 m1,.slice (some ⟨g,0,none⟩) 1 1] w (Ret w (p2V n6 m6 n7 m7))) (h3:∀w,Calls Tryz.prog 34 #[p2V n4 m4 n5 m5,p2V n6 m6 n7 m7] w (Ret w (.bool true))) (w:World):Calls Tryz.prog 12 #[p2V n0 m0 n1 m1,p2V n2 m2 n3 m3,p2V n4 m4 n5 m5] w (Ret w (.bool false)):=by
 have h1:=Lib.hid h1
 have h2:=Lib.hid h2
 have h3:=Lib.hid h3
 go_enter Tryz.func12,Tryz.ntmps12
 go_upto_region 1 with fail
 refine wp_region_held_drew (S:=(fun w'=>w'.cell? ⟨w.heap.size,0,none⟩=some (.int .u64 (lowN (sz n0)))∧w'.cell? ⟨w.heap.size,1,none⟩=some (.string (bigS (sz n0)))∧w'.cell? ⟨w.heap.size,2,none⟩=some (.bool (ng n0))∧w'.cell? ⟨w.heap.size,3,none⟩=some (.int .u64 (lowN m0))∧w'.cell? ⟨w.heap.size,4,none⟩=some (.string (bigS m0))∧w'.cell? ⟨w.heap.size,5,none⟩=some (.int .u64 (lowN (sz n1)))∧w'.cell? ⟨w.heap.size,6,none⟩=some (.string (bigS (sz n1)))∧w'.cell? ⟨w.heap.size,7,none⟩=some (.bool (ng n1))∧w'.cell? ⟨w.heap.size,8,none⟩=some (.int .u64 (lowN m1))∧w'.cell? ⟨w.heap.size,9,none⟩=some (.string (bigS m1))∧w'.cell? ⟨w.heap.size+1,0,none⟩=some (.int .u64 (lowN (sz n2)))∧w'.cell? ⟨w.heap.size+1,1,none⟩=some (.string (bigS (sz n2)))∧w'.cell? ⟨w.heap.size+1,2,none⟩=some (.bool (ng n2))∧w'.cell? ⟨w.heap.size+1,3,none⟩=some (.int .u64 (lowN m2))∧w'.cell? ⟨w.heap.size+1,4,none⟩=some (.string (bigS m2))∧w'.cell? ⟨w.heap.size+1,5,none⟩=some (.int .u64 (lowN (sz n3)))∧w'.cell? ⟨w.heap.size+1,6,none⟩=some (.string (bigS (sz n3)))∧w'.cell? ⟨w.heap.size+1,7,none⟩=some (.bool (ng n3))∧w'.cell? ⟨w.heap.size+1,8,none⟩=some (.int .u64 (lowN m3))∧w'.cell? ⟨w.heap.size+1,9,none⟩=some (.string (bigS m3))∧w'.cell? ⟨w.heap.size+1+1,0,none⟩=some (.int .u64 (lowN (sz n4)))∧w'.cell? ⟨w.heap.size+1+1,1,none⟩=some (.string (bigS (sz n4)))∧w'.cell? ⟨w.heap.size+1+1,2,none⟩=some (.bool (ng n4))∧w'.cell? ⟨w.heap.size+1+1,3,none⟩=some (.int .u64 (lowN m4))∧w'.cell? ⟨w.heap.size+1+1,4,none⟩=some (.string (bigS m4))∧w'.cell? ⟨w.heap.size+1+1,5,none⟩=some (.int .u64 (lowN (sz n5)))∧w'.cell? ⟨w.heap.size+1+1,6,none⟩=some (.string (bigS (sz n5)))∧w'.cell? ⟨w.heap.size+1+1,7,none⟩=some (.bool (ng n5))∧w'.cell? ⟨w.heap.size+1+1,8,none⟩=some (.int .u64 (lowN m5))∧w'.cell? ⟨w.heap.size+1+1,9,none⟩=some (.string (bigS m5)))) (by kernel_rfl) ?_ (fun hHeld=>?_)
 ·simp [go_sem, *]
 refine tk 0 (some 7) (p2V n0 m0 n1 m1) ?_
 try simp only [pS]
 refine tk 1 (some 8) (p2V n2 m2 n3 m3) ?_
 try simp only [pS]
 refine tk 2 (some 9) (p2V n4 m4 n5 m5) ?_
 try simp only [pS]
 refine rd 3 (fun K hK=>?_)
 go_simp
 (refine(h1.out _).mono ?_;rintro e w1 ⟨rfl,hg1⟩;(try (with_reducible replace hg1:=Gr.of_drew hg1));have hsz1:=hg1.size;(try simp at hsz1);have hz1_0:w.heap.size<w1.heap.size:=(by omega);have hz1_1:w.heap.size+1<w1.heap.size:=(by omega);have hz1_2:w.heap.size+1+1<w1.heap.size:=(by omega);obtain ⟨hc1,hf1⟩:=hg1.cells;have HG1:=Lib.hid hg1;clear hg1)
 (try dsimp only)
 refine hK.out _ _ ?_ (fun hQ1=>?_)
 ·(first|exact trivial|((try dsimp only);simp [go_sem, *]))
 clear hK K hHeld
 try simp only [pS]
 refine tk 4 (some 11) (.bool true) ?_
 try simp only [pS]
 refine tk 5 (some 12) (.bool true) ?_
 try simp only [pS]
 refine tk 6 (some 13) (p2V n4 m4 n5 m5) ?_
 try simp only [pS]
 refine tk 7 (some 14) (p2V n0 m0 n1 m1) ?_
 try simp only [pS]
 refine tk 8 (some 15) (p2V n2 m2 n3 m3) ?_
 try simp only [pS]
 refine rd 9 (fun K hK=>?_)
 go_simp
 (try dsimp only)
 refine hK.out _ _ ?_ (fun hQ2=>?_)
 ·(first|exact trivial|((try dsimp only);simp [go_sem, *]))
 clear hK K hQ1
 try simp only [pS]
 refine rd 10 (fun K hK=>?_)
 go_simp
 (refine(h2.out _ _ (by(with_reducible (repeat' (first|(refine VB.new' ?_;exact(by first|omega|(simp;done)|(simp;omega)))|apply VB.put2|apply VB.put3|apply VB.put5|refine VB.drew ?_|refine VB.far ?_ ?_ _|refine VB.alloc ?_ _|refine VB.gr ?_ HG1.out ?_|omega|(simp;done)|(simp;omega)))))).mono ?_;rintro e w2 ⟨rfl,hg2⟩;(try (with_reducible replace hg2:=Gr.of_drew hg2));have hsz2:=hg2.size;(try simp at hsz2);have hz2_0:w.heap.size<w2.heap.size:=(by omega);have hz2_1:w.heap.size+1<w2.heap.size:=(by omega);have hz2_2:w.heap.size+1+1<w2.heap.size:=(by omega);obtain ⟨hc2,hf2⟩:=hg2.cells;have HG2:=Lib.hid hg2;clear hg2)
 (try dsimp only)
 refine hK.out _ _ ?_ (fun hQ3=>?_)
 ·(first|exact trivial|((try dsimp only);simp [go_sem, *]))
 clear hK K hQ2
 try simp only [pS]
 refine rd 11 (fun K hK=>?_)
 go_simp
 (refine(h3.out _).mono ?_;rintro e w3 ⟨rfl,hg3⟩;(try (with_reducible replace hg3:=Gr.of_drew hg3));have hsz3:=hg3.size;(try simp at hsz3);have hz3_0:w.heap.size<w3.heap.size:=(by omega);have hz3_1:w.heap.size+1<w3.heap.size:=(by omega);have hz3_2:w.heap.size+1+1<w3.heap.size:=(by omega);obtain ⟨hc3,hf3⟩:=hg3.cells;have HG3:=Lib.hid hg3;clear hg3)
 (try dsimp only)
 refine hK.out _ _ ?_ (fun hQ4=>?_)
 ·(first|exact trivial|((try dsimp only);simp [go_sem, *]))
 clear hK K hQ3
 try simp only [pS]
 refine tk 12 (some 19) (.bool false) ?_
 try simp only [pS]
 refine tk 13 (some 20) (.bool false) ?_
 try simp only [pS]
 refine tk 14 (some 21) (.bool false) ?_
 try simp only [pS]
 refine tu 15 (some 22) (undef) ?_
 try simp only [pS]
 refine tu 16 (some 23) (undef) ?_
 try simp only [pS]
 refine tu 17 (some 24) (undef) ?_
 try simp only [pS]
 refine tu 18 (some 25) (undef) ?_
 try simp only [pS]
 refine tu 19 (some 26) (undef) ?_
 try simp only [pS]
 refine tu 20 (some 27) (undef) ?_
 try simp only [pS]
 refine tu 21 (some 28) (undef) ?_
 try simp only [pS]
 refine tk 22 (some 29) (.bool false) ?_
 try simp only [pS]
 refine rd 23 (fun K hK=>?_)
 go_simp
 (try dsimp only)
 refine hK.out _ _ ?_ (fun hQ5=>?_)
 ·(first|exact trivial|((try dsimp only);simp [go_sem, *]))
 clear hK K hQ4
 try simp only [pS]
 refine wpAnyH_done (by kernel_rfl) ?_ _
 go_wp2
 go_ret
 exact⟨rfl,by(with_reducible (repeat' (first|exact Gr.refl _ _|refine Gr.drew ?_|refine Gr.setCell ?_ ?_ _|refine Gr.alloc ?_ ?_ _|refine Gr.trans ?_ (Gr.mono HG3.out ?_)|refine Gr.trans ?_ (Gr.mono HG2.out ?_)|refine Gr.trans ?_ (Gr.mono HG1.out ?_)|omega|(simp;done)|(simp;omega))))⟩
set_option maxRecDepth 20000 in
set_option maxHeartbeats 4000000 in
theorem On_rawC {n0 n1 n2 n3 n4 n5 n6 n7 n8 n9:Int} {m0 m1 m2 m3 m4 m5 m6 m7 m8 m9:Nat} {y:Bool} (h1:∀w,Calls Tryz.prog 33 #[p2V n0 m0 n1 m1,p2V n2 m2 n3 m3,p2V n4 m4 n5 m5] w (Ret w (.int .i64 0))) (h2:∀g w,VB w g [.int .u64 (lowN (sz n2)),.string (bigS (sz n2)),.bool (ng n2),.int .u64 (lowN m2),.string (bigS m2),.int .u64 (lowN (sz n3)),.string (bigS (sz n3)),.bool (ng n3),.int .u64 (lowN m3),.string (bigS m3)]→Calls Tryz.prog 35 #[p2V n0 m0 n1 m1,.slice (some ⟨g,0,none⟩) 1 1] w (Ret w (p2V n6 m6 n7 m7))) (h3:∀w,Calls Tryz.prog 34 #[p2V n4 m4 n5 m5,p2V n6 m6 n7 m7] w (Ret w (.bool false))) (h4:∀g w,VB w g [.int .u64 (lowN (sz n2)),.string (bigS (sz n2)),.bool (ng n2),.int .u64 (lowN m2),.string (bigS m2),.int .u64 (lowN (sz n3)),.string (bigS (sz n3)),.bool (ng n3),.int .u64 (lowN m3),.string (bigS m3)]→Calls Tryz.prog 36 #[p2V n0 m0 n1 m1,.slice (some ⟨g,0,none⟩) 1 1] w (Ret w (p2V n8 m8 n9 m9))) (h5:∀w,Calls Tryz.prog 34 #[p2V n8 m8 n9 m9,p2V n4 m4 n5 m5] w (Ret w (.bool y))) (w:World):Calls Tryz.prog 12 #[p2V n0 m0 n1 m1,p2V n2 m2 n3 m3,p2V n4 m4 n5 m5] w (Ret w (.bool (!y))):=by
 have h1:=Lib.hid h1
 have h2:=Lib.hid h2
 have h3:=Lib.hid h3
 have h4:=Lib.hid h4
 have h5:=Lib.hid h5
 go_enter Tryz.func12,Tryz.ntmps12
 go_upto_region 1 with fail
 refine wp_region_held_drew (S:=(fun w'=>w'.cell? ⟨w.heap.size,0,none⟩=some (.int .u64 (lowN (sz n0)))∧w'.cell? ⟨w.heap.size,1,none⟩=some (.string (bigS (sz n0)))∧w'.cell? ⟨w.heap.size,2,none⟩=some (.bool (ng n0))∧w'.cell? ⟨w.heap.size,3,none⟩=some (.int .u64 (lowN m0))∧w'.cell? ⟨w.heap.size,4,none⟩=some (.string (bigS m0))∧w'.cell? ⟨w.heap.size,5,none⟩=some (.int .u64 (lowN (sz n1)))∧w'.cell? ⟨w.heap.size,6,none⟩=some (.string (bigS (sz n1)))∧w'.cell? ⟨w.heap.size,7,none⟩=some (.bool (ng n1))∧w'.cell? ⟨w.heap.size,8,none⟩=some (.int .u64 (lowN m1))∧w'.cell? ⟨w.heap.size,9,none⟩=some (.string (bigS m1))∧w'.cell? ⟨w.heap.size+1,0,none⟩=some (.int .u64 (lowN (sz n2)))∧w'.cell? ⟨w.heap.size+1,1,none⟩=some (.string (bigS (sz n2)))∧w'.cell? ⟨w.heap.size+1,2,none⟩=some (.bool (ng n2))∧w'.cell? ⟨w.heap.size+1,3,none⟩=some (.int .u64 (lowN m2))∧w'.cell? ⟨w.heap.size+1,4,none⟩=some (.string (bigS m2))∧w'.cell? ⟨w.heap.size+1,5,none⟩=some (.int .u64 (lowN (sz n3)))∧w'.cell? ⟨w.heap.size+1,6,none⟩=some (.string (bigS (sz n3)))∧w'.cell? ⟨w.heap.size+1,7,none⟩=some (.bool (ng n3))∧w'.cell? ⟨w.heap.size+1,8,none⟩=some (.int .u64 (lowN m3))∧w'.cell? ⟨w.heap.size+1,9,none⟩=some (.string (bigS m3))∧w'.cell? ⟨w.heap.size+1+1,0,none⟩=some (.int .u64 (lowN (sz n4)))∧w'.cell? ⟨w.heap.size+1+1,1,none⟩=some (.string (bigS (sz n4)))∧w'.cell? ⟨w.heap.size+1+1,2,none⟩=some (.bool (ng n4))∧w'.cell? ⟨w.heap.size+1+1,3,none⟩=some (.int .u64 (lowN m4))∧w'.cell? ⟨w.heap.size+1+1,4,none⟩=some (.string (bigS m4))∧w'.cell? ⟨w.heap.size+1+1,5,none⟩=some (.int .u64 (lowN (sz n5)))∧w'.cell? ⟨w.heap.size+1+1,6,none⟩=some (.string (bigS (sz n5)))∧w'.cell? ⟨w.heap.size+1+1,7,none⟩=some (.bool (ng n5))∧w'.cell? ⟨w.heap.size+1+1,8,none⟩=some (.int .u64 (lowN m5))∧w'.cell? ⟨w.heap.size+1+1,9,none⟩=some (.string (bigS m5)))) (by kernel_rfl) ?_ (fun hHeld=>?_)
 ·simp [go_sem, *]
 refine tk 0 (some 7) (p2V n0 m0 n1 m1) ?_
 try simp only [pS]
 refine tk 1 (some 8) (p2V n2 m2 n3 m3) ?_
 try simp only [pS]
 refine tk 2 (some 9) (p2V n4 m4 n5 m5) ?_
 try simp only [pS]
 refine rd 3 (fun K hK=>?_)
 go_simp
 (refine(h1.out _).mono ?_;rintro e w1 ⟨rfl,hg1⟩;(try (with_reducible replace hg1:=Gr.of_drew hg1));have hsz1:=hg1.size;(try simp at hsz1);have hz1_0:w.heap.size<w1.heap.size:=(by omega);have hz1_1:w.heap.size+1<w1.heap.size:=(by omega);have hz1_2:w.heap.size+1+1<w1.heap.size:=(by omega);obtain ⟨hc1,hf1⟩:=hg1.cells;have HG1:=Lib.hid hg1;clear hg1)
 (try dsimp only)
 refine hK.out _ _ ?_ (fun hQ1=>?_)
 ·(first|exact trivial|((try dsimp only);simp [go_sem, *]))
 clear hK K hHeld
 try simp only [pS]
 refine tk 4 (some 11) (.bool true) ?_
 try simp only [pS]
 refine tk 5 (some 12) (.bool true) ?_
 try simp only [pS]
 refine tk 6 (some 13) (p2V n4 m4 n5 m5) ?_
 try simp only [pS]
 refine tk 7 (some 14) (p2V n0 m0 n1 m1) ?_
 try simp only [pS]
 refine tk 8 (some 15) (p2V n2 m2 n3 m3) ?_
 try simp only [pS]
 refine rd 9 (fun K hK=>?_)
 go_simp
 (try dsimp only)
 refine hK.out _ _ ?_ (fun hQ2=>?_)
 ·(first|exact trivial|((try dsimp only);simp [go_sem, *]))
 clear hK K hQ1
 try simp only [pS]
 refine rd 10 (fun K hK=>?_)
 go_simp
 (refine(h2.out _ _ (by(with_reducible (repeat' (first|(refine VB.new' ?_;exact(by first|omega|(simp;done)|(simp;omega)))|apply VB.put2|apply VB.put3|apply VB.put5|refine VB.drew ?_|refine VB.far ?_ ?_ _|refine VB.alloc ?_ _|refine VB.gr ?_ HG1.out ?_|omega|(simp;done)|(simp;omega)))))).mono ?_;rintro e w2 ⟨rfl,hg2⟩;(try (with_reducible replace hg2:=Gr.of_drew hg2));have hsz2:=hg2.size;(try simp at hsz2);have hz2_0:w.heap.size<w2.heap.size:=(by omega);have hz2_1:w.heap.size+1<w2.heap.size:=(by omega);have hz2_2:w.heap.size+1+1<w2.heap.size:=(by omega);obtain ⟨hc2,hf2⟩:=hg2.cells;have HG2:=Lib.hid hg2;clear hg2)
 (try dsimp only)
 refine hK.out _ _ ?_ (fun hQ3=>?_)
 ·(first|exact trivial|((try dsimp only);simp [go_sem, *]))
 clear hK K hQ2
 try simp only [pS]
 refine rd 11 (fun K hK=>?_)
 go_simp
 (refine(h3.out _).mono ?_;rintro e w3 ⟨rfl,hg3⟩;(try (with_reducible replace hg3:=Gr.of_drew hg3));have hsz3:=hg3.size;(try simp at hsz3);have hz3_0:w.heap.size<w3.heap.size:=(by omega);have hz3_1:w.heap.size+1<w3.heap.size:=(by omega);have hz3_2:w.heap.size+1+1<w3.heap.size:=(by omega);obtain ⟨hc3,hf3⟩:=hg3.cells;have HG3:=Lib.hid hg3;clear hg3)
 (try dsimp only)
 refine hK.out _ _ ?_ (fun hQ4=>?_)
 ·(first|exact trivial|((try dsimp only);simp [go_sem, *]))
 clear hK K hQ3
 try simp only [pS]
 refine tk 12 (some 19) (.bool true) ?_
 try simp only [pS]
 refine tk 13 (some 20) (.bool true) ?_
 try simp only [pS]
 refine tk 14 (some 21) (.bool true) ?_
 try simp only [pS]
 refine tk 15 (some 22) (p2V n0 m0 n1 m1) ?_
 try simp only [pS]
 refine tk 16 (some 23) (p2V n2 m2 n3 m3) ?_
 try simp only [pS]
 refine tk 19 (some 26) (p2V n4 m4 n5 m5) ?_
 try simp only [pS]
 refine rd 17 (fun K hK=>?_)
 go_simp
 (try dsimp only)
 refine hK.out _ _ ?_ (fun hQ5=>?_)
 ·(first|exact trivial|((try dsimp only);simp [go_sem, *]))
 clear hK K hQ4
 try simp only [pS]
 refine rd 18 (fun K hK=>?_)
 go_simp
 (refine(h4.out _ _ (by(with_reducible (repeat' (first|(refine VB.new' ?_;exact(by first|omega|(simp;done)|(simp;omega)))|apply VB.put2|apply VB.put3|apply VB.put5|refine VB.drew ?_|refine VB.far ?_ ?_ _|refine VB.alloc ?_ _|refine VB.gr ?_ HG3.out ?_|refine VB.gr ?_ HG2.out ?_|refine VB.gr ?_ HG1.out ?_|omega|(simp;done)|(simp;omega)))))).mono ?_;rintro e w4 ⟨rfl,hg4⟩;(try (with_reducible replace hg4:=Gr.of_drew hg4));have hsz4:=hg4.size;(try simp at hsz4);have hz4_0:w.heap.size<w4.heap.size:=(by omega);have hz4_1:w.heap.size+1<w4.heap.size:=(by omega);have hz4_2:w.heap.size+1+1<w4.heap.size:=(by omega);obtain ⟨hc4,hf4⟩:=hg4.cells;have HG4:=Lib.hid hg4;clear hg4)
 (try dsimp only)
 refine hK.out _ _ ?_ (fun hQ6=>?_)
 ·(first|exact trivial|((try dsimp only);simp [go_sem, *]))
 clear hK K hQ5
 try simp only [pS]
 refine rd 20 (fun K hK=>?_)
 go_simp
 (refine(h5.out _).mono ?_;rintro e w5 ⟨rfl,hg5⟩;(try (with_reducible replace hg5:=Gr.of_drew hg5));have hsz5:=hg5.size;(try simp at hsz5);have hz5_0:w.heap.size<w5.heap.size:=(by omega);have hz5_1:w.heap.size+1<w5.heap.size:=(by omega);have hz5_2:w.heap.size+1+1<w5.heap.size:=(by omega);obtain ⟨hc5,hf5⟩:=hg5.cells;have HG5:=Lib.hid hg5;clear hg5)
 (try dsimp only)
 refine hK.out _ _ ?_ (fun hQ7=>?_)
 ·(first|exact trivial|((try dsimp only);simp [go_sem, *]))
 clear hK K hQ6
 try simp only [pS]
 refine tk 21 (some 28) (.bool (!y)) ?_
 try simp only [pS]
 refine tk 22 (some 29) (.bool (!y)) ?_
 try simp only [pS]
 refine rd 23 (fun K hK=>?_)
 go_simp
 (try dsimp only)
 refine hK.out _ _ ?_ (fun hQ8=>?_)
 ·(first|exact trivial|((try dsimp only);simp [go_sem, *]))
 clear hK K hQ7
 try simp only [pS]
 refine wpAnyH_done (by kernel_rfl) ?_ _
 go_wp2
 go_ret
 exact⟨rfl,by(with_reducible (repeat' (first|exact Gr.refl _ _|refine Gr.drew ?_|refine Gr.setCell ?_ ?_ _|refine Gr.alloc ?_ ?_ _|refine Gr.trans ?_ (Gr.mono HG5.out ?_)|refine Gr.trans ?_ (Gr.mono HG4.out ?_)|refine Gr.trans ?_ (Gr.mono HG3.out ?_)|refine Gr.trans ?_ (Gr.mono HG2.out ?_)|refine Gr.trans ?_ (Gr.mono HG1.out ?_)|omega|(simp;done)|(simp;omega))))⟩
end Go.Proofs.YtmbmeggbojfecaaGreat
namespace Go.Proofs.YtmbmeggbojfecaaGreat
open Go.RowKit Gus Go.Maps
def leastP (a b:Pt):Pt:=if lessP b a=true then b else a
def greatP (a b:Pt):Pt:=if lessP a b=true then b else a
def onP (a b p:Pt):Bool:=decide (turn a b p=0) && !lessP p (leastP a b) && !lessP (greatP a b) p
theorem pt_least (a b:Pt) (g:Nat) (w:World) (ha:hp a≤1000000000) (hb:hp b≤1000000000) (hc:VB w g (pC b)):Calls Tryz.prog 35 #[pV a,.slice (some ⟨g,0,none⟩) 1 1] w (Ret w (pV (leastP a b))):=by
 unfold leastP
 rcases h:lessP b a with _|_
 ·exact least_false g w hc (fun w=>by have:=pt_Less b a w (by omega) (by omega);rw [h]at this;exact this)
 ·exact least_true g w hc (fun w=>by have:=pt_Less b a w (by omega) (by omega);rw [h]at this;exact this)
theorem pt_greatest (a b:Pt) (g:Nat) (w:World) (ha:hp a≤1000000000) (hb:hp b≤1000000000) (hc:VB w g (pC b)):Calls Tryz.prog 36 #[pV a,.slice (some ⟨g,0,none⟩) 1 1] w (Ret w (pV (greatP a b))):=by
 unfold greatP
 rcases h:lessP a b with _|_
 ·exact greatest_false g w hc (fun w=>by have:=pt_Less a b w (by omega) (by omega);rw [h]at this;exact this)
 ·exact greatest_true g w hc (fun w=>by have:=pt_Less a b w (by omega) (by omega);rw [h]at this;exact this)
theorem hp_least {a b:Pt} {n:Nat} (ha:hp a≤n) (hb:hp b≤n):hp (leastP a b)≤n∧hp (greatP a b)≤n:=by
 unfold leastP greatP
 constructor<;>split<;>assumption
theorem pt_On (a b p:Pt) (w:World) (ha:hp a≤1000000000) (hb:hp b≤1000000000) (hq:hp p≤1000000000):Calls Tryz.prog 12 #[pV a,pV b,pV p] w (Ret w (.bool (onP a b p))):=by
 obtain ⟨hl,hg⟩:=hp_least ha hb
 unfold onP
 by_cases h0:turn a b p=0
 ·have h1:=fun w=>pt_Turn a b p w ha hb hq
  rw [h0]at h1
  rcases hx:lessP p (leastP a b)with _|_
  ·have:=On_rawC h1 (fun g w hc=>pt_least a b g w ha hb hc) (fun w=>by have:=pt_Less p (leastP a b) w (by omega) (by omega);rw [hx]at this;exact this) (fun g w hc=>pt_greatest a b g w ha hb hc) (fun w=>pt_Less (greatP a b) p w (by omega) (by omega)) w
   simpa [h0] using this
  ·have:=On_rawB h1 (fun g w hc=>pt_least a b g w ha hb hc) (fun w=>by have:=pt_Less p (leastP a b) w (by omega) (by omega);rw [hx]at this;exact this) w
   simpa [h0] using this
 ·have:=On_rawA h0 (fun w=>pt_Turn a b p w ha hb hq) w
  simpa [h0] using this
end Go.Proofs.YtmbmeggbojfecaaGreat
namespace Go.Proofs.YtmbmeggbojfecaaGreat
def onN (a b q:P2):Bool:=Nat.beq (Nat.add (Nat.add (Nat.mul b.1 q.2) (Nat.mul a.1 b.2)) (Nat.mul a.2 q.1)) (Nat.add (Nat.add (Nat.mul b.2 q.1) (Nat.mul a.2 b.1)) (Nat.mul a.1 q.2)) &&
 ((Nat.ble a.1 q.1 && Nat.ble q.1 b.1) || (Nat.ble b.1 q.1 && Nat.ble q.1 a.1)) && ((Nat.ble a.2 q.2 && Nat.ble q.2 b.2) || (Nat.ble b.2 q.2 && Nat.ble q.2 a.2))
def dbl (p:P2):P2:=(2*p.1,2*p.2)
def sum2 (p r:P2):P2:=(p.1+r.1,p.2+r.2)
def eqP (p q:P2):Bool:=Nat.beq p.1 q.1 && Nat.beq p.2 q.2
def edgesT (t:T2):List (P2×P2):= [(t.1,t.2.1),(t.2.1,t.2.2),(t.2.2,t.1)]
def onB (t u:T2):Bool:=(edgesT t).all fun e=>((edgesT u).all fun f=> !onN e.1 e.2 f.1 || eqP f.1 e.1 || eqP f.1 e.2) &&
 ((edgesT u).all fun f=> !onN (dbl e.1) (dbl e.2) (sum2 f.1 f.2) || (eqP f.1 e.1 && eqP f.2 e.2) || (eqP f.1 e.2 && eqP f.2 e.1))
set_option maxRecDepth 100000 in
theorem kinds_on:((List.range 9).all fun a=>(List.range 9).all fun b=>(List.range 3).all fun k=>(List.range 3).all fun j=>(Nat.beq a b && !Nat.beq k j) || ((cellK k (2*(a % 3)) (2*(a / 3))).all fun t=>(cellK j (2*(b % 3)) (2*(b / 3))).all fun u=>onB t u))=true:=by decide+kernel
theorem kinds_on' {k j x y x' y':Nat} (hx:x<3) (hy:y<3) (hx':x'<3) (hy':y'<3) (he:x=x'∧y=y'→k=j):∀t∈cellK k (2*x) (2*y),∀u∈cellK j (2*x') (2*y'),onB t u=true:=by
 by_cases hk:k<3
 ·by_cases hj:j<3
  ·have h:=kinds_on
   rw [List.all_eq_true]at h
   have h:=h (x+3*y) (List.mem_range.2 (by omega))
   rw [List.all_eq_true]at h
   have h:=h (x'+3*y') (List.mem_range.2 (by omega))
   rw [List.all_eq_true]at h
   have h:=h k (List.mem_range.2 hk)
   rw [List.all_eq_true]at h
   have h:=h j (List.mem_range.2 hj)
   rw [Bool.or_eq_true]at h
   rcases h with h|h
   ·rw [Bool.and_eq_true]at h
    have h1:=Nat.eq_of_beq_eq_true h.1
    have h2:k=j:=he (by omega)
    rw [h2]at h
    simp at h
   ·rw [show(x+3*y) % 3=x by omega,show(x+3*y) / 3=y by omega,show(x'+3*y') % 3=x' by omega,show(x'+3*y') / 3=y' by omega]at h
    intro t ht u hu
    exact List.all_eq_true.1 (List.all_eq_true.1 h t ht) u hu
  ·rw [cellK_big (k:=j) hj];simp
 ·rw [cellK_big hk];simp
theorem cells_on {nx ny:Nat} (way:Nat→Nat) (hx:nx≤3) (hy:ny≤3):∀t∈cellsL nx ny way,∀u∈cellsL nx ny way,onB t u=true:=by
 intro t ht u hu
 unfold cellsL at ht hu
 obtain ⟨i,hi,ht⟩:=List.mem_flatMap.1 ht
 obtain ⟨j,hj,hu⟩:=List.mem_flatMap.1 hu
 obtain ⟨h1,h2⟩:=cell_at hx hy (List.mem_range.1 hi)
 obtain ⟨h3,h4⟩:=cell_at hx hy (List.mem_range.1 hj)
 refine kinds_on' h1 h2 h3 h4 ?_ t ht u hu
 intro ⟨e1,e2⟩
 have a:=Nat.div_add_mod i nx
 have b:=Nat.div_add_mod j nx
 rw [e1,e2]at a
 rw [show i=j by omega]
theorem eqP_eq {p q:P2} (h:eqP p q=true):p=q:=by
 unfold eqP at h
 rw [Bool.and_eq_true]at h
 exact Prod.ext (Nat.eq_of_beq_eq_true h.1) (Nat.eq_of_beq_eq_true h.2)
theorem onN_swap (a b q:P2):onN b a q=onN a b q:=by
 unfold onN
 have e:Nat.beq (Nat.add (Nat.add (Nat.mul a.1 q.2) (Nat.mul b.1 a.2)) (Nat.mul b.2 q.1)) (Nat.add (Nat.add (Nat.mul a.2 q.1) (Nat.mul b.2 a.1)) (Nat.mul b.1 q.2))=Nat.beq (Nat.add (Nat.add (Nat.mul b.1 q.2) (Nat.mul a.1 b.2)) (Nat.mul a.2 q.1)) (Nat.add (Nat.add (Nat.mul b.2 q.1) (Nat.mul a.2 b.1)) (Nat.mul a.1 q.2)):=by
  rw [Bool.eq_iff_iff,Nat.beq_eq,Nat.beq_eq]
  show a.1*q.2+b.1*a.2+b.2*q.1=a.2*q.1+b.2*a.1+b.1*q.2↔b.1*q.2+a.1*b.2+a.2*q.1=b.2*q.1+a.2*b.1+a.1*q.2
  rw [Nat.mul_comm b.1 a.2,Nat.mul_comm b.2 a.1]
  omega
 rw [e,Bool.or_comm (Nat.ble b.1 q.1 && Nat.ble q.1 a.1),Bool.or_comm (Nat.ble b.2 q.2 && Nat.ble q.2 a.2)]
theorem edge_of {t:T2} {a b:P2} (ha:hasP t a=true) (hb:hasP t b=true) (hne:a≠b):(a,b)∈edgesT t∨(b,a)∈edgesT t:=by
 unfold hasP at ha hb
 simp only [Bool.or_eq_true,beq_iff_eq]at ha hb
 unfold edgesT
 rcases ha with(ha|ha)|ha<;>rcases hb with(hb|hb)|hb<;>subst ha<;>subst hb<;>simp_all
def OnOk (L:List T2):Prop:= ∀t∈L,∀u∈L,∀a b,hasP t a=true→hasP t b=true→a≠b→
 (∀q,hasP u q=true→onN a b q=true→q=a∨q=b)∧(∀p r,hasP u p=true→hasP u r=true→p≠r→onN (dbl a) (dbl b) (sum2 p r)=true→(p=a∧r=b)∨(p=b∧r=a))
theorem sum2_comm (p r:P2):sum2 r p=sum2 p r:=by unfold sum2;rw [Nat.add_comm r.1,Nat.add_comm r.2]
theorem onB_edge {t u:T2} (h:onB t u=true) {a b:P2} (he:(a,b)∈edgesT t):
  (∀q,hasP u q=true→onN a b q=true→q=a∨q=b)∧(∀p r,hasP u p=true→hasP u r=true→p≠r→onN (dbl a) (dbl b) (sum2 p r)=true→(p=a∧r=b)∨(p=b∧r=a)):=by
 unfold onB at h
 have h:=List.all_eq_true.1 h _ he
 rw [Bool.and_eq_true]at h
 obtain ⟨h1,h2⟩:=h
 constructor
 ·intro q hq ho
  have hf:∃f∈edgesT u,f.1=q:=by
   unfold hasP at hq
   simp only [Bool.or_eq_true,beq_iff_eq]at hq
   unfold edgesT
   rcases hq with(e|e)|e<;>subst e
   ·exact⟨(u.1,u.2.1),by simp,rfl⟩
   ·exact⟨(u.2.1,u.2.2),by simp,rfl⟩
   ·exact⟨(u.2.2,u.1),by simp,rfl⟩
  obtain ⟨f,hf,rfl⟩:=hf
  have h:=List.all_eq_true.1 h1 f hf
  simp only [ho,Bool.not_true,Bool.false_or,Bool.or_eq_true]at h
  rcases h with h|h
  ·exact .inl (eqP_eq h)
  ·exact .inr (eqP_eq h)
 ·intro p r hp hr hne ho
  have key:∀p r,(p,r)∈edgesT u→onN (dbl a) (dbl b) (sum2 p r)=true→(p=a∧r=b)∨(p=b∧r=a):=by
   intro p r hf ho
   have h:=List.all_eq_true.1 h2 _ hf
   simp only [ho,Bool.not_true,Bool.false_or,Bool.or_eq_true,Bool.and_eq_true]at h
   rcases h with h|h
   ·exact .inl ⟨eqP_eq h.1,eqP_eq h.2⟩
   ·exact .inr ⟨eqP_eq h.1,eqP_eq h.2⟩
  rcases edge_of hp hr hne with hf|hf
  ·exact key p r hf ho
  ·rcases key r p hf (by rw [sum2_comm];exact ho)with⟨e1,e2⟩|⟨e1,e2⟩
   ·exact .inr ⟨e2,e1⟩
   ·exact .inl ⟨e2,e1⟩
theorem onOk_all {L:List T2} (h:∀t∈L,∀u∈L,onB t u=true):OnOk L:=by
 intro t ht u hu a b ha hb hne
 rcases edge_of ha hb hne with he|he
 ·exact onB_edge (h t ht u hu) he
 ·obtain ⟨h1,h2⟩:=onB_edge (h t ht u hu) he
  refine⟨fun q hq ho=>(h1 q hq (by rw [onN_swap];exact ho)).symm,fun p r hp hr hn ho=>?_⟩
  exact(h2 p r hp hr hn (by rw [onN_swap];exact ho)).symm
theorem onOk_turned {L:List T2} (r:Nat→Nat) (h:OnOk L):OnOk (turned r L):=by
 intro t ht u hu a b ha hb hne
 unfold turned at ht hu
 obtain ⟨i,hi,rfl⟩:=List.mem_mapIdx.1 ht
 obtain ⟨j,hj,rfl⟩:=List.mem_mapIdx.1 hu
 rw [hasP_rot]at ha hb
 have:=h L[i] (List.getElem_mem hi) L[j] (List.getElem_mem hj) a b ha hb hne
 simpa only [hasP_rot] using this
end Go.Proofs.YtmbmeggbojfecaaGreat
namespace Go.Proofs.YtmbmeggbojfecaaGreat
theorem sq_mul {V U u v:Int} (hV:V≠0) (e:U*v=V*u) (h:0≤U*(V - U)):0≤u*(v - u):=by
 have h0:0≤v*v:=by
  rcases Int.le_total 0 v with q|q
  ·exact Int.mul_nonneg q q
  ·exact Int.mul_nonneg_of_nonpos_of_nonpos q q
 have h1:0≤v*v*(U*(V - U)):=Int.mul_nonneg h0 h
 have h2:v*v*(U*(V - U))=V*V*(u*(v - u)):=by
  have:v*v*(U*(V - U))=(U*v)*(V*v - U*v):=by grind
  rw [this,e]
  grind
 rw [h2]at h1
 rcases Int.lt_or_le (u*(v - u)) 0 with q|q
 ·exfalso
  have hp:0<V*V:=by
   rcases Int.lt_or_gt_of_ne hV with a|a
   ·exact Int.mul_pos_of_neg_of_neg a a
   ·exact Int.mul_pos a a
  have:=Int.mul_neg_of_pos_of_neg hp q
  omega
 ·exact q
theorem btw {u v:Int} (h:0≤u*(v - u)):(0≤u∧u≤v)∨(v≤u∧u≤0):=by
 rcases Int.lt_trichotomy u 0 with q|q|q
 ·rcases Int.lt_or_le 0 (v - u)with a|a
  ·have:=Int.mul_neg_of_neg_of_pos q a;omega
  ·omega
 ·omega
 ·rcases Int.lt_or_le (v - u) 0 with a|a
  ·have:=Int.mul_neg_of_pos_of_neg q a;omega
  ·omega
theorem wtb {u v:Int} (h:(0≤u∧u≤v)∨(v≤u∧u≤0)):0≤u*(v - u):=by
 rcases h with⟨a,b⟩|⟨a,b⟩
 ·exact Int.mul_nonneg a (by omega)
 ·exact Int.mul_nonneg_of_nonpos_of_nonpos b (by omega)
theorem lin_btw {k1 k2 k3 k4 u1 u2 v1 v2:Int} (hd:0<k1*k4 - k2*k3) (hc:v1*u2=v2*u1)
  (h:(((0<k1*u1+k2*u2)∨(k1*u1+k2*u2=0∧0≤k3*u1+k4*u2))∧((k1*u1+k2*u2<k1*v1+k2*v2)∨(k1*u1+k2*u2=k1*v1+k2*v2∧k3*u1+k4*u2≤k3*v1+k4*v2)))∨
   (((k1*u1+k2*u2<0)∨(k1*u1+k2*u2=0∧k3*u1+k4*u2≤0))∧((k1*v1+k2*v2<k1*u1+k2*u2)∨(k1*v1+k2*v2=k1*u1+k2*u2∧k3*v1+k4*v2≤k3*u1+k4*u2)))):
  ((0≤u1∧u1≤v1)∨(v1≤u1∧u1≤0))∧((0≤u2∧u2≤v2)∨(v2≤u2∧u2≤0)):=by
 have e11:(k1*u1+k2*u2)*v1=(k1*v1+k2*v2)*u1:=by grind
 have e12:(k1*u1+k2*u2)*v2=(k1*v1+k2*v2)*u2:=by grind
 have e21:(k3*u1+k4*u2)*v1=(k3*v1+k4*v2)*u1:=by grind
 have e22:(k3*u1+k4*u2)*v2=(k3*v1+k4*v2)*u2:=by grind
 have d1:(k1*k4 - k2*k3)*u1=k4*(k1*u1+k2*u2) - k2*(k3*u1+k4*u2):=by grind
 have d2:(k1*k4 - k2*k3)*u2=k1*(k3*u1+k4*u2) - k3*(k1*u1+k2*u2):=by grind
 generalize k1*u1+k2*u2=U1 at *
 generalize k3*u1+k4*u2=U2 at *
 generalize k1*v1+k2*v2=V1 at *
 generalize k3*v1+k4*v2=V2 at *
 by_cases hV1:V1=0
 ·by_cases hV2:V2=0
  ·have a1:U1=0:=by omega
   have a2:U2=0:=by omega
   rw [a1,a2]at d1 d2
   simp only [Int.mul_zero,Int.sub_self]at d1 d2
   have b1:u1=0:=(Int.mul_eq_zero.1 d1).resolve_left (by omega)
   have b2:u2=0:=(Int.mul_eq_zero.1 d2).resolve_left (by omega)
   omega
  ·have h2:=wtb (u:=U2) (v:=V2) (by omega)
   exact⟨btw (sq_mul hV2 e21 h2),btw (sq_mul hV2 e22 h2)⟩
 ·have h1:=wtb (u:=U1) (v:=V1) (by omega)
  exact⟨btw (sq_mul hV1 e11 h1),btw (sq_mul hV1 e12 h1)⟩
theorem qQ_lt {n m:Int} {d:Nat} (h:0<d):qQ n d<qQ m d↔n<m:=by
 rw [qQ_e n h,qQ_e m h,Rat.mul_lt_mul_right (den_pos h)]
 exact Rat.intCast_lt_intCast
theorem qQ_eq {n m:Int} {d:Nat} (h:0<d):qQ n d=qQ m d↔n=m:=by
 constructor
 ·intro e
  rcases Int.lt_trichotomy n m with q|q|q
  ·have:=(qQ_lt h).2 q;rw [e]at this;exact absurd this (Rat.lt_irrefl)
  ·exact q
  ·have:=(qQ_lt h).2 q;rw [e]at this;exact absurd this (Rat.lt_irrefl)
 ·rintro rfl;rfl
theorem less_pt {k:K4} {e:Nat} (he:0<e) (p r:P2):lessP (ptM k e p) (ptM k e r)=true↔(k.1*p.1+k.2.1*p.2<k.1*r.1+k.2.1*r.2)∨(k.1*p.1+k.2.1*p.2=k.1*r.1+k.2.1*r.2∧k.2.2.1*p.1+k.2.2.2*p.2<k.2.2.1*r.1+k.2.2.2*r.2):=by
 unfold lessP ptM
 dsimp only
 split
 ·rename_i h
  rw [cmpQ_zero,qQ_eq he]at h
  rw [decide_eq_true_eq,cmpQ_neg,qQ_lt he]
  omega
 ·rename_i h
  rw [cmpQ_zero,qQ_eq he]at h
  rw [decide_eq_true_eq,cmpQ_neg,qQ_lt he]
  omega
theorem on_grid {k:K4} {e:Nat} (hk:0<det4 k) (he:0<e) {a b q:P2} (h:onP (ptM k e a) (ptM k e b) (ptM k e q)=true):onN a b q=true:=by
 unfold onP at h
 rw [Bool.and_eq_true,Bool.and_eq_true,decide_eq_true_eq,turn_pt hk he,sgn_zero]at h
 obtain ⟨⟨h0,h1⟩,h2⟩:=h
 unfold leastP at h1
 unfold greatP at h2
 have hc:((b.1:Int) - a.1)*((q.2:Int) - a.2)=((b.2:Int) - a.2)*((q.1:Int) - a.1):=by unfold cross2 at h0;omega
 have key:=lin_btw (k1:=k.1) (k2:=k.2.1) (k3:=k.2.2.1) (k4:=k.2.2.2) (u1:=(q.1:Int) - a.1) (u2:=(q.2:Int) - a.2) (v1:=(b.1:Int) - a.1) (v2:=(b.2:Int) - a.2) hk hc (by
  have nl:∀p r:P2,(!lessP (ptM k e p) (ptM k e r))=true→¬((k.1*p.1+k.2.1*p.2<k.1*r.1+k.2.1*r.2)∨(k.1*p.1+k.2.1*p.2=k.1*r.1+k.2.1*r.2∧k.2.2.1*p.1+k.2.2.2*p.2<k.2.2.1*r.1+k.2.2.2*r.2)):=fun p r h h2=>by rw [(less_pt he p r).2 h2]at h;exact absurd h (by simp)
  simp only [Int.mul_sub]
  by_cases l1:lessP (ptM k e b) (ptM k e a)=true
  ·rw [if_pos l1]at h1
   have m1:=(less_pt he _ _).1 l1
   rw [if_neg (fun l2=>by have m2:=(less_pt he _ _).1 l2;omega)]at h2
   have m3:=nl _ _ h1
   have m4:=nl _ _ h2
   omega
  ·rw [if_neg l1]at h1
   have m1:=fun x=>l1 ((less_pt he _ _).2 x)
   have m3:=nl _ _ h1
   by_cases l2:lessP (ptM k e a) (ptM k e b)=true
   ·rw [if_pos l2]at h2
    have m2:=(less_pt he _ _).1 l2
    have m4:=nl _ _ h2
    omega
   ·rw [if_neg l2]at h2
    have m2:=fun x=>l2 ((less_pt he _ _).2 x)
    have m4:=nl _ _ h2
    omega)
 unfold onN
 rw [Bool.and_eq_true,Bool.and_eq_true]
 refine⟨⟨?_,?_⟩,?_⟩
 ·rw [Nat.beq_eq]
  show b.1*q.2+a.1*b.2+a.2*q.1=b.2*q.1+a.2*b.1+a.1*q.2
  have:((b.1*q.2+a.1*b.2+a.2*q.1:Nat):Int)=((b.2*q.1+a.2*b.1+a.1*q.2:Nat):Int):=by
   simp only [Int.natCast_add,Int.natCast_mul]
   grind
  exact_mod_cast this
 ·simp only [Bool.or_eq_true,Bool.and_eq_true,Nat.ble_eq]
  omega
 ·simp only [Bool.or_eq_true,Bool.and_eq_true,Nat.ble_eq]
  omega
end Go.Proofs.YtmbmeggbojfecaaGreat
namespace Go.Proofs.YtmbmeggbojfecaaGreat
open Go.RowKit Gus Go.Maps
theorem RawM.onOk (x:RawM):OnOk x.L:=onOk_turned _ (onOk_all (cells_on _ (by omega) (by omega)))
theorem half_d {d:Nat} (h:0<d):((d:Int):Rat)⁻¹=2*(((2*d:Nat):Int):Rat)⁻¹:=by
 have h2:0<2*d:=by omega
 have a1:((d:Int):Rat)*((d:Int):Rat)⁻¹=1:=Rat.mul_inv_cancel _ (fun e=>by have:=Rat.intCast_eq_zero_iff.1 e;omega)
 have a2:(((2*d:Nat):Int):Rat)*(((2*d:Nat):Int):Rat)⁻¹=1:=Rat.mul_inv_cancel _ (fun e=>by have:=Rat.intCast_eq_zero_iff.1 e;omega)
 have a3:(((2*d:Nat):Int):Rat)=2*((d:Int):Rat):=by rw [Int.natCast_mul,Rat.intCast_mul];rfl
 rw [a3]at a2 ⊢
 generalize (2*((d:Int):Rat))⁻¹=c2 at *
 generalize ((d:Int):Rat)⁻¹=c at *
 generalize ((d:Int):Rat)=D at *
 grind
theorem qQ_dbl (n:Int) {d:Nat} (h:0<d):qQ (2*n) (2*d)=qQ n d:=by
 rw [qQ_e _ h,qQ_e _ (show 0<2*d by omega),half_d h,Rat.intCast_mul]
 generalize (((2*d:Nat):Int):Rat)⁻¹=c
 show(2:Rat)*(n:Rat)*c=_
 grind
theorem qQ_mid (n m:Int) {d:Nat} (h:0<d):(qQ n d+qQ m d)*(1 / 2)=qQ (n+m) (2*d):=by
 rw [qQ_e _ h,qQ_e _ h,qQ_e _ (show 0<2*d by omega),half_d h,Rat.intCast_add]
 generalize (((2*d:Nat):Int):Rat)⁻¹=c
 grind
def fX (k:K4) (p:P2):Int:=k.1*p.1+k.2.1*p.2
def fY (k:K4) (p:P2):Int:=k.2.2.1*p.1+k.2.2.2*p.2
theorem ptM_f (k:K4) (d:Nat) (p:P2):ptM k d p=⟨qQ (fX k p) d,qQ (fY k p) d⟩:=rfl
theorem f_dbl (k:K4) (p:P2):fX k (dbl p)=2*fX k p∧fY k (dbl p)=2*fY k p:=by
 unfold fX fY dbl
 simp only [Int.natCast_mul]
 constructor<;>grind
theorem f_sum (k:K4) (p r:P2):fX k (sum2 p r)=fX k p+fX k r∧fY k (sum2 p r)=fY k p+fY k r:=by
 unfold fX fY sum2
 simp only [Int.natCast_add]
 constructor<;>grind
theorem ptM_dbl (k:K4) {d:Nat} (h:0<d) (p:P2):ptM k (2*d) (dbl p)=ptM k d p:=by
 rw [ptM_f,ptM_f,(f_dbl k p).1,(f_dbl k p).2,qQ_dbl _ h,qQ_dbl _ h]
theorem ptM_mid (k:K4) {d:Nat} (h:0<d) (p r:P2):midP (ptM k d p) (ptM k d r)=ptM k (2*d) (sum2 p r):=by
 rw [ptM_f,ptM_f,ptM_f,(f_sum k p r).1,(f_sum k p r).2]
 unfold midP
 rw [qQ_mid _ _ h,qQ_mid _ _ h]
theorem on_true {k:K4} {e:Nat} (hk:0<det4 k) (he:0<e) {a b q:P2} (hc:cross2 a b q=0) (h:(fX k q=fX k a∧fY k q=fY k a)∨(fX k q=fX k b∧fY k q=fY k b)∨(2*fX k q=fX k a+fX k b∧2*fY k q=fY k a+fY k b)):onP (ptM k e a) (ptM k e b) (ptM k e q)=true:=by
 have ls:∀p r:P2,lessP (ptM k e p) (ptM k e r)=true↔(fX k p<fX k r∨(fX k p=fX k r∧fY k p<fY k r)):=fun p r=>less_pt he p r
 have nl:∀p r:P2,¬(fX k p<fX k r∨(fX k p=fX k r∧fY k p<fY k r))→(!lessP (ptM k e p) (ptM k e r))=true:=fun p r h=>by
  rcases hx:lessP (ptM k e p) (ptM k e r)with _|_
  ·rfl
  ·exact absurd ((ls p r).1 hx) h
 unfold onP
 rw [Bool.and_eq_true,Bool.and_eq_true,decide_eq_true_eq,turn_pt hk he,sgn_zero]
 refine⟨⟨hc,?_⟩,?_⟩
 ·unfold leastP
  split
  ·rename_i l;have:=(ls _ _).1 l;exact nl _ _ (by omega)
  ·rename_i l;have:=mt (ls _ _).2 l;exact nl _ _ (by omega)
 ·unfold greatP
  split
  ·rename_i l;have:=(ls _ _).1 l;exact nl _ _ (by omega)
  ·rename_i l;have:=mt (ls _ _).2 l;exact nl _ _ (by omega)
theorem on_ends {k:K4} {e:Nat} (hk:0<det4 k) (he:0<e) (a b:P2):onP (ptM k e a) (ptM k e b) (ptM k e a)=true∧onP (ptM k e a) (ptM k e b) (ptM k e b)=true∧onP (ptM k e a) (ptM k e b) (midP (ptM k e a) (ptM k e b))=true:=by
 refine⟨on_true hk he (by unfold cross2;grind) (.inl ⟨rfl,rfl⟩),on_true hk he (by unfold cross2;grind) (.inr (.inl ⟨rfl,rfl⟩)),?_⟩
 rw [ptM_mid k he,←ptM_dbl k he a,←ptM_dbl k he b]
 refine on_true hk (by omega) ?_ (.inr (.inr ?_))
 ·unfold cross2 dbl sum2;simp only [Int.natCast_mul,Int.natCast_add];grind
 ·obtain ⟨h1,h2⟩:=f_sum k a b
  obtain ⟨h3,h4⟩:=f_dbl k a
  obtain ⟨h5,h6⟩:=f_dbl k b
  omega
end Go.Proofs.YtmbmeggbojfecaaGreat
