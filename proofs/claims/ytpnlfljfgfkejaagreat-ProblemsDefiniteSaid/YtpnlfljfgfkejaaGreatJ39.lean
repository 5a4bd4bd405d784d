/-
  Part 39 of the proof: LivK Sq Def.
-/
import Derived.Test.YtpnlfljfgfkejaaGreatJ22
import Derived.Test.YtpnlfljfgfkejaaGreatJ23
import Derived.Test.YtpnlfljfgfkejaaGreatJ30
import Derived.Test.YtpnlfljfgfkejaaGreatJ12
import Derived.WalkKit
import Derived.WalkSpells
import Derived.WalkLawsBesides
import Derived.Deep.RegionHeld3
import Derived.Deep.QuietTactic
import Derived.BigQuiet
import Derived.Deep.RegionWith
import Derived.KernelRfl
import Derived.Lib.Hide
import Derived.Maps.AppendAt
import Derived.Deep.AppendLies
import Derived.Laws.MakeOwn
import Derived.Laws.BitsAllLaws
import Derived.Laws.BytesArg
import Derived.Laws.StructEq
import Derived.Shelf.Spec.BitsCarry
import Derived.Deep.DeepCutAuto
import Derived.Laws.CopyOwn
import Derived.Deep.CutBlock
import Derived.Deep.CutRange
import Derived.Deep.MidRow
import Derived.Shelf.SlSortCmp.InsertionK
import Derived.Shelf.SlicesQ.Load
import Derived.Lib.SliceRun
import Derived.Shelf.SlSortCmp.NoneTotal
import Derived.Maps.OwnSet
import Derived.Maps.OwnOps
import Derived.Maps.Views
import Derived.DeepKeys4
import Derived.Maps.RangeWalk
import Derived.WideKeyEntry
import Derived.WalkMore
import Derived.Shelf.Abstract
import Derived.Deep.Upon
set_option linter.unusedSimpArgs false
set_option linter.unusedVariables false
namespace Go.Proofs.YtpnlfljfgfkejaaGreat
open Go.RowKit Gus
def uT:List T:= [⟨2,0,1⟩,⟨0,2,1⟩]
def xyT:List T:= [⟨1,1,1⟩]
def uL:List T:=gat uT
def xyL:List T:=gat xyT
def sL:List T:=sourceL 1 0 1 0 uL
def s1L:List T:=sourceL 1 0 1 1 uL
def h0L:List T:=flow1 2 1 xyL
def h1L:List T:=flow1 1 3 xyL
def uuL:List T:=addL uL []
def k0L:List T:=flow1 1 0 uL
def k1L:List T:=flow1 0 1 uL
abbrev okL (l:List T):Prop:= ∀t∈l,t.ok
theorem ok_uT:okL uT:=by decide+kernel
theorem ok_xyT:okL xyT:=by decide+kernel
theorem ok_uL:okL uL:=by decide+kernel
theorem ok_xyL:okL xyL:=by decide+kernel
theorem ok_sL:okL sL:=by decide+kernel
theorem ok_s1L:okL s1L:=by decide+kernel
theorem ok_h0L:okL h0L:=by decide+kernel
theorem ok_h1L:okL h1L:=by decide+kernel
theorem ok_uuL:okL uuL:=by decide+kernel
theorem ok_k0L:okL k0L:=by decide+kernel
theorem ok_k1L:okL k1L:=by decide+kernel
theorem tot_uT:tot uT≤1000:=by decide+kernel
theorem tot_xyT:tot xyT≤1000:=by decide+kernel
theorem tot_uL:tot uL≤1000:=by decide+kernel
theorem tot_xyL:tot xyL≤1000:=by decide+kernel
theorem tot_sL:tot sL≤1000:=by decide+kernel
theorem tot_s1L:tot s1L≤1000:=by decide+kernel
theorem tot_h0L:tot h0L≤1000:=by decide+kernel
theorem tot_h1L:tot h1L≤1000:=by decide+kernel
theorem tot_uuL:tot uuL≤1000:=by decide+kernel
theorem tot_k0L:tot k0L≤1000:=by decide+kernel
theorem tot_k1L:tot k1L≤1000:=by decide+kernel
theorem deg_sL:degL (gat sL)≤8:=by decide+kernel
theorem deg_uuL:degL (gat uuL)≤8:=by decide+kernel
theorem deg_k0L:degL (gat k0L)≤8:=by decide+kernel
theorem deg_k1L:degL (gat k1L)≤8:=by decide+kernel
theorem deg_nil:degL (gat [])≤8:=by decide+kernel
theorem hw_r1:hw 1≤5:=by decide+kernel
theorem hw_r0:hw 0≤5:=by decide+kernel
theorem hw_r2:hw 2≤5:=by decide+kernel
theorem hw_r3:hw 3≤5:=by decide+kernel
theorem hw_r4:hw (-4)≤5:=by decide+kernel
theorem same_1:gat sL=gat (constT (-4)):=by decide+kernel
theorem same_2:gat s1L=gat (addL sL uL):=by decide+kernel
theorem same_3:gat h0L=gat (addL (scaleL 2 yL) xL):=by decide+kernel
theorem same_4:gat h1L=gat (addL yL (scaleL 3 xL)):=by decide+kernel
def cL:List T:=constT (-4)
def y2L:List T:=scaleL 2 yL
def x3L:List T:=scaleL 3 xL
def a1L:List T:=addL sL uL
def a2L:List T:=addL y2L xL
def a3L:List T:=addL yL x3L
theorem ok_xL:okL xL:=by decide+kernel
theorem ok_yL:okL yL:=by decide+kernel
theorem ok_cL:okL cL:=by decide+kernel
theorem ok_y2L:okL y2L:=by decide+kernel
theorem ok_x3L:okL x3L:=by decide+kernel
theorem ok_a1L:okL a1L:=by decide+kernel
theorem ok_a2L:okL a2L:=by decide+kernel
theorem ok_a3L:okL a3L:=by decide+kernel
theorem tot_xL:tot xL≤1000:=by decide+kernel
theorem tot_yL:tot yL≤1000:=by decide+kernel
theorem tot_cL:tot cL≤1000:=by decide+kernel
theorem tot_y2L:tot y2L≤1000:=by decide+kernel
theorem tot_x3L:tot x3L≤1000:=by decide+kernel
theorem tot_a1L:tot a1L≤1000:=by decide+kernel
theorem tot_a2L:tot a2L≤1000:=by decide+kernel
theorem tot_a3L:tot a3L≤1000:=by decide+kernel
theorem int_0:((0:Int):Rat)=0:=rfl
theorem int_1:((1:Int):Rat)=1:=rfl
theorem int_2:((2:Int):Rat)=2:=rfl
theorem int_3:((3:Int):Rat)=3:=rfl
theorem int_4:((-4:Int):Rat)= -4:=rfl
end Go.Proofs.YtpnlfljfgfkejaaGreat
namespace Go.Proofs.YtpnlfljfgfkejaaGreat
open Go.RowKit Gus
set_option maxRecDepth 20000 in
set_option maxHeartbeats 8000000 in
theorem square_raw {a0 a1 a2 n0 n1 n2 p q s t r:Int} {b0 b1 b2 m0 m1 m2 pm qm sm tm rm:Nat} (h0:∀w,Calls Tryz.prog 5 #[qV a0 b0] w (Ret w (frV n0 m0))) (h1:∀w,Calls Tryz.prog 5 #[qV a1 b1] w (Ret w (frV n1 m1))) (h2:∀w,Calls Tryz.prog 5 #[qV a2 b2] w (Ret w (frV n2 m2)))
  (h4:∀w,Calls Tryz.prog 6 #[frV n0 m0] w (Ret w (frV p pm))) (h5:∀w,Calls Tryz.prog 7 #[frV n0 m0,frV n1 m1] w (Ret w (frV q qm))) (h6:∀w,Calls Tryz.prog 6 #[frV n1 m1] w (Ret w (frV s sm))) (h7:∀w,Calls Tryz.prog 6 #[frV n2 m2] w (Ret w (frV t tm))) (h8:∀w,Calls Tryz.prog 8 #[frV s sm,frV t tm] w (Ret w (frV r rm)))
  (w:World):Calls Tryz.prog 4 #[q3V a0 b0 a1 b1 a2 b2] w (Ret w (f3V p pm q qm r rm)):=by
 have h0:=Lib.hid h0
 have h1:=Lib.hid h1
 have h2:=Lib.hid h2
 have h4:=Lib.hid h4
 have h5:=Lib.hid h5
 have h6:=Lib.hid h6
 have h7:=Lib.hid h7
 have h8:=Lib.hid h8
 go_enter Tryz.func4,Tryz.ntmps4
 go_wp2_with fail
 (refine(h0.out _).mono ?_;rintro e w1 ⟨rfl,hg1⟩;(try (with_reducible replace hg1:=Gr.of_drew hg1));have hsz1:=hg1.size;(try simp at hsz1);have hz1_0:w.heap.size<w1.heap.size:=(by omega);have hz1_1:w.heap.size+1<w1.heap.size:=(by omega);obtain ⟨hc1,hf1⟩:=hg1.cells;have HG1:=Lib.hid hg1;clear hg1)
 go_wp2_with fail
 (refine(h1.out _).mono ?_;rintro e w2 ⟨rfl,hg2⟩;(try (with_reducible replace hg2:=Gr.of_drew hg2));have hsz2:=hg2.size;(try simp at hsz2);have hy2_0:w1.heap.size<w2.heap.size:=(by omega);have hz2_0:w.heap.size<w2.heap.size:=(by omega);have hz2_1:w.heap.size+1<w2.heap.size:=(by omega);obtain ⟨hc2,hf2⟩:=hg2.cells;have HG2:=Lib.hid hg2;clear hg2)
 have n12:¬w1.heap.size=w2.heap.size:=by omega
 go_wp2_with fail
 (refine(h2.out _).mono ?_;rintro e w3 ⟨rfl,hg3⟩;(try (with_reducible replace hg3:=Gr.of_drew hg3));have hsz3:=hg3.size;(try simp at hsz3);have hy3_0:w1.heap.size<w3.heap.size:=(by omega);have hy3_1:w2.heap.size<w3.heap.size:=(by omega);have hz3_0:w.heap.size<w3.heap.size:=(by omega);have hz3_1:w.heap.size+1<w3.heap.size:=(by omega);obtain ⟨hc3,hf3⟩:=hg3.cells;have HG3:=Lib.hid hg3;clear hg3)
 have n13:¬w1.heap.size=w3.heap.size:=by omega
 have n23:¬w2.heap.size=w3.heap.size:=by omega
 go_wp2_with fail
 refine wp_region_held_drew (S:=(fun w'=>w'.cell? ⟨w1.heap.size,0,none⟩=some (.int .u64 (lowN (sz n0)))∧w'.cell? ⟨w1.heap.size,1,none⟩=some (.string (bigS (sz n0)))∧w'.cell? ⟨w1.heap.size,2,none⟩=some (.bool (ng n0))∧w'.cell? ⟨w1.heap.size,3,none⟩=some (.int .u64 (lowN m0))∧w'.cell? ⟨w1.heap.size,4,none⟩=some (.string (bigS m0))∧w'.cell? ⟨w2.heap.size,0,none⟩=some (.int .u64 (lowN (sz n1)))∧w'.cell? ⟨w2.heap.size,1,none⟩=some (.string (bigS (sz n1)))∧w'.cell? ⟨w2.heap.size,2,none⟩=some (.bool (ng n1))∧w'.cell? ⟨w2.heap.size,3,none⟩=some (.int .u64 (lowN m1))∧w'.cell? ⟨w2.heap.size,4,none⟩=some (.string (bigS m1))∧w'.cell? ⟨w3.heap.size,0,none⟩=some (.int .u64 (lowN (sz n2)))∧w'.cell? ⟨w3.heap.size,1,none⟩=some (.string (bigS (sz n2)))∧w'.cell? ⟨w3.heap.size,2,none⟩=some (.bool (ng n2))∧w'.cell? ⟨w3.heap.size,3,none⟩=some (.int .u64 (lowN m2))∧w'.cell? ⟨w3.heap.size,4,none⟩=some (.string (bigS m2)))) (by kernel_rfl) ?_ (fun hHeld=>?_)
 ·simp [go_sem, *]
 refine tk 0 (some 15) (.agg #[.int .u64 (lowN (sz n0)),.string (bigS (sz n0)),.bool (ng n0),.int .u64 (lowN m0),.string (bigS m0)]) ?_
 try simp only [pS]
 refine tk 2 (some 17) (.agg #[.int .u64 (lowN (sz n0)),.string (bigS (sz n0)),.bool (ng n0),.int .u64 (lowN m0),.string (bigS m0)]) ?_
 try simp only [pS]
 refine tk 3 (some 18) (.agg #[.int .u64 (lowN (sz n1)),.string (bigS (sz n1)),.bool (ng n1),.int .u64 (lowN m1),.string (bigS m1)]) ?_
 try simp only [pS]
 refine tk 5 (some 20) (.agg #[.int .u64 (lowN (sz n1)),.string (bigS (sz n1)),.bool (ng n1),.int .u64 (lowN m1),.string (bigS m1)]) ?_
 try simp only [pS]
 refine tk 7 (some 22) (.agg #[.int .u64 (lowN (sz n2)),.string (bigS (sz n2)),.bool (ng n2),.int .u64 (lowN m2),.string (bigS m2)]) ?_
 try simp only [pS]
 refine rd 1 (fun K hK=>?_)
 go_simp
 (refine(h4.out _).mono ?_;rintro e w4 ⟨rfl,hg4⟩;(try (with_reducible replace hg4:=Gr.of_drew hg4));have hsz4:=hg4.size;(try simp at hsz4);have hy4_0:w1.heap.size<w4.heap.size:=(by omega);have hy4_1:w2.heap.size<w4.heap.size:=(by omega);have hy4_2:w3.heap.size<w4.heap.size:=(by omega);have hz4_0:w.heap.size<w4.heap.size:=(by omega);have hz4_1:w.heap.size+1<w4.heap.size:=(by omega);obtain ⟨hc4,hf4⟩:=hg4.cells;have HG4:=Lib.hid hg4;clear hg4)
 (try dsimp only)
 refine hK.out _ _ ?_ (fun hQ1=>?_)
 ·(first|exact trivial|((try dsimp only);simp [go_sem, *]))
 clear hK K hHeld
 try simp only [pS]
 refine rd 4 (fun K hK=>?_)
 go_simp
 (refine(h5.out _).mono ?_;rintro e w5 ⟨rfl,hg5⟩;(try (with_reducible replace hg5:=Gr.of_drew hg5));have hsz5:=hg5.size;(try simp at hsz5);have hy5_0:w1.heap.size<w5.heap.size:=(by omega);have hy5_1:w2.heap.size<w5.heap.size:=(by omega);have hy5_2:w3.heap.size<w5.heap.size:=(by omega);have hz5_0:w.heap.size<w5.heap.size:=(by omega);have hz5_1:w.heap.size+1<w5.heap.size:=(by omega);obtain ⟨hc5,hf5⟩:=hg5.cells;have HG5:=Lib.hid hg5;clear hg5)
 (try dsimp only)
 refine hK.out _ _ ?_ (fun hQ2=>?_)
 ·(first|exact trivial|((try dsimp only);simp [go_sem, *]))
 clear hK K hQ1
 try simp only [pS]
 refine rd 6 (fun K hK=>?_)
 go_simp
 (refine(h6.out _).mono ?_;rintro e w6 ⟨rfl,hg6⟩;(try (with_reducible replace hg6:=Gr.of_drew hg6));have hsz6:=hg6.size;(try simp at hsz6);have hy6_0:w1.heap.size<w6.heap.size:=(by omega);have hy6_1:w2.heap.size<w6.heap.size:=(by omega);have hy6_2:w3.heap.size<w6.heap.size:=(by omega);have hz6_0:w.heap.size<w6.heap.size:=(by omega);have hz6_1:w.heap.size+1<w6.heap.size:=(by omega);obtain ⟨hc6,hf6⟩:=hg6.cells;have HG6:=Lib.hid hg6;clear hg6)
 (try dsimp only)
 refine hK.out _ _ ?_ (fun hQ3=>?_)
 ·(first|exact trivial|((try dsimp only);simp [go_sem, *]))
 clear hK K hQ2
 try simp only [pS]
 refine rd 8 (fun K hK=>?_)
 go_simp
 (refine(h7.out _).mono ?_;rintro e w7 ⟨rfl,hg7⟩;(try (with_reducible replace hg7:=Gr.of_drew hg7));have hsz7:=hg7.size;(try simp at hsz7);have hy7_0:w1.heap.size<w7.heap.size:=(by omega);have hy7_1:w2.heap.size<w7.heap.size:=(by omega);have hy7_2:w3.heap.size<w7.heap.size:=(by omega);have hz7_0:w.heap.size<w7.heap.size:=(by omega);have hz7_1:w.heap.size+1<w7.heap.size:=(by omega);obtain ⟨hc7,hf7⟩:=hg7.cells;have HG7:=Lib.hid hg7;clear hg7)
 (try dsimp only)
 refine hK.out _ _ ?_ (fun hQ4=>?_)
 ·(first|exact trivial|((try dsimp only);simp [go_sem, *]))
 clear hK K hQ3
 try simp only [pS]
 refine rd 9 (fun K hK=>?_)
 go_simp
 (refine(h8.out _).mono ?_;rintro e w8 ⟨rfl,hg8⟩;(try (with_reducible replace hg8:=Gr.of_drew hg8));have hsz8:=hg8.size;(try simp at hsz8);have hy8_0:w1.heap.size<w8.heap.size:=(by omega);have hy8_1:w2.heap.size<w8.heap.size:=(by omega);have hy8_2:w3.heap.size<w8.heap.size:=(by omega);have hz8_0:w.heap.size<w8.heap.size:=(by omega);have hz8_1:w.heap.size+1<w8.heap.size:=(by omega);obtain ⟨hc8,hf8⟩:=hg8.cells;have HG8:=Lib.hid hg8;clear hg8)
 (try dsimp only)
 refine hK.out _ _ ?_ (fun hQ5=>?_)
 ·(first|exact trivial|((try dsimp only);simp [go_sem, *]))
 clear hK K hQ4
 try simp only [pS]
 refine tk 10 (some 25) (.agg #[.int .u64 (lowN (sz p)),.string (bigS (sz p)),.bool (ng p),.int .u64 (lowN pm),.string (bigS pm),.int .u64 (lowN (sz q)),.string (bigS (sz q)),.bool (ng q),.int .u64 (lowN qm),.string (bigS qm),.int .u64 (lowN (sz r)),.string (bigS (sz r)),.bool (ng r),.int .u64 (lowN rm),.string (bigS rm)]) ?_
 try simp only [pS]
 refine wpAnyH_ready (rs:= [11]) (by kernel_rfl) (by simp) ?_
 refine AllReadyH.cons (o:=⟨none,_,_,_,_,_⟩) rfl (fun K hK=>?_) AllReadyH.nil
 rw [if_pos (by rfl)]
 refine wp_store_mid 35 _ _ rfl (w.heap.size+1) 0 (List.toArray [.int .u64 (lowN (sz p)),.string (bigS (sz p)),.bool (ng p),.int .u64 (lowN pm),.string (bigS pm),.int .u64 (lowN (sz q)),.string (bigS (sz q)),.bool (ng q),.int .u64 (lowN qm),.string (bigS qm),.int .u64 (lowN (sz r)),.string (bigS (sz r)),.bool (ng r),.int .u64 (lowN rm),.string (bigS rm)]) rfl rfl (VB.there (cs:= [.int .u64 0,.string ⟨#[]⟩,.bool false,.int .u64 0,.string ⟨#[]⟩,.int .u64 0,.string ⟨#[]⟩,.bool false,.int .u64 0,.string ⟨#[]⟩,.int .u64 0,.string ⟨#[]⟩,.bool false,.int .u64 0,.string ⟨#[]⟩]) ?_) info_F3 (by first|rfl|simp [Value.oneCell']) ?_
 ·(with_reducible (repeat' (first|(refine VB.new' ?_;exact(by first|omega|(simp;done)|(simp;omega)))|apply VB.put2|apply VB.put3|apply VB.put5|refine VB.drew ?_|refine VB.far ?_ ?_ _|refine VB.alloc ?_ _|refine VB.gr ?_ HG8.out ?_|refine VB.gr ?_ HG7.out ?_|refine VB.gr ?_ HG6.out ?_|refine VB.gr ?_ HG5.out ?_|refine VB.gr ?_ HG4.out ?_|refine VB.gr ?_ HG3.out ?_|refine VB.gr ?_ HG2.out ?_|refine VB.gr ?_ HG1.out ?_|omega|(simp;done)|(simp;omega))))
 simp only [pS]
 refine hK.out _ _ ?_ (fun hQ6=>?_)
 ·have hh:=hQ5;(try dsimp only at hh ⊢);simp only [cell_sets_ne (show w1.heap.size≠w.heap.size+1 by omega),cell_sets_ne (show w2.heap.size≠w.heap.size+1 by omega),cell_sets_ne (show w3.heap.size≠w.heap.size+1 by omega)];exact hh
 clear hK K hQ5
 refine wpAnyH_done (by kernel_rfl) ?_ _
 go_wp2
 refine ret_row (g:=w.heap.size+1) Tryz.results4 rfl (VB.set (cs:= [.int .u64 0,.string ⟨#[]⟩,.bool false,.int .u64 0,.string ⟨#[]⟩,.int .u64 0,.string ⟨#[]⟩,.bool false,.int .u64 0,.string ⟨#[]⟩,.int .u64 0,.string ⟨#[]⟩,.bool false,.int .u64 0,.string ⟨#[]⟩]) ?_ [.int .u64 (lowN (sz p)),.string (bigS (sz p)),.bool (ng p),.int .u64 (lowN pm),.string (bigS pm),.int .u64 (lowN (sz q)),.string (bigS (sz q)),.bool (ng q),.int .u64 (lowN qm),.string (bigS qm),.int .u64 (lowN (sz r)),.string (bigS (sz r)),.bool (ng r),.int .u64 (lowN rm),.string (bigS rm)] rfl) Tryz.underlying35 rfl info_F3 rfl ⟨rfl,?_⟩
 ·(with_reducible (repeat' (first|(refine VB.new' ?_;exact(by first|omega|(simp;done)|(simp;omega)))|apply VB.put2|apply VB.put3|apply VB.put5|refine VB.drew ?_|refine VB.far ?_ ?_ _|refine VB.alloc ?_ _|refine VB.gr ?_ HG8.out ?_|refine VB.gr ?_ HG7.out ?_|refine VB.gr ?_ HG6.out ?_|refine VB.gr ?_ HG5.out ?_|refine VB.gr ?_ HG4.out ?_|refine VB.gr ?_ HG3.out ?_|refine VB.gr ?_ HG2.out ?_|refine VB.gr ?_ HG1.out ?_|omega|(simp;done)|(simp;omega))))
 ·exact Gr.sets (by omega) _ _ (by(with_reducible (repeat' (first|exact Gr.refl _ _|refine Gr.drew ?_|refine Gr.setCell ?_ ?_ _|refine Gr.alloc ?_ ?_ _|refine Gr.trans ?_ (Gr.mono HG8.out ?_)|refine Gr.trans ?_ (Gr.mono HG7.out ?_)|refine Gr.trans ?_ (Gr.mono HG6.out ?_)|refine Gr.trans ?_ (Gr.mono HG5.out ?_)|refine Gr.trans ?_ (Gr.mono HG4.out ?_)|refine Gr.trans ?_ (Gr.mono HG3.out ?_)|refine Gr.trans ?_ (Gr.mono HG2.out ?_)|refine Gr.trans ?_ (Gr.mono HG1.out ?_)|omega|(simp;done)|(simp;omega)))))
end Go.Proofs.YtpnlfljfgfkejaaGreat
namespace Go.Proofs.YtpnlfljfgfkejaaGreat
open Go.RowKit Gus
theorem rat_sq_nonneg (x:Rat):0≤x*x:=by
 rcases Rat.le_total (a:=0) (b:=x)with h|h
 ·exact Rat.mul_nonneg h h
 ·have:0≤(-x)*(-x):=Rat.mul_nonneg (by grind) (by grind)
  grind
theorem rat_sq_pos {x:Rat} (h:x≠0):0<x*x:=by
 have h1:=rat_sq_nonneg x
 have h2:x*x≠0:=by grind
 grind
theorem def_square (x y z:Rat):(0<x*x∧(x*y)*(x*y)<(x*x)*(y*y+z*z))↔(x≠0∧z≠0):=by
 constructor
 ·rintro ⟨h1,h2⟩
  refine⟨by intro e;subst e;grind,by intro e;subst e;grind⟩
 ·rintro ⟨h1,h2⟩
  have a:=rat_sq_pos h1
  have b:=rat_sq_pos h2
  have c:=Rat.mul_pos a b
  exact⟨a,by grind⟩
theorem def_turn {a b c:Rat} (h1:0<a) (h2:b*b<a*c):0<c:=by
 have h:=rat_sq_nonneg b
 have h3:0<a*c:=by grind
 rcases Rat.le_total (a:=c) (b:=0)with hc|hc
 ·exfalso
  have:=Rat.mul_nonneg (a:=a) (b:= -c) (by grind) (by grind)
  grind
 ·have:c≠0:=by intro e;subst e;grind
  grind
theorem def_sum {a b c a' b' c':Rat} (h1:0<a) (h2:b*b<a*c) (h1':0<a') (h2':b'*b'<a'*c'):(b+b')*(b+b')<(a+a')*(c+c'):=by
 have hc:=def_turn h1 h2
 have hc':=def_turn h1' h2'
 have k:=rat_sq_nonneg (a'*b - a*b')
 have p1:=Rat.mul_pos h1' (show 0<a*c - b*b by grind)
 have p2:=Rat.mul_pos h1 (show 0<a'*c' - b'*b' by grind)
 have q1:=Rat.mul_pos (show 0<a+a' by grind) p1
 have q2:=Rat.mul_pos (show 0<a+a' by grind) p2
 have haa:=Rat.mul_pos h1 h1'
 have key:0<a*a'*((a+a')*(c+c') - (b+b')*(b+b')):=by grind
 rcases Rat.le_total (a:=(a+a')*(c+c')) (b:=(b+b')*(b+b'))with h|h
 ·exfalso
  have:=Rat.mul_nonneg (a:=a*a') (b:=(b+b')*(b+b') - (a+a')*(c+c')) (by grind) (by grind)
  grind
 ·have:(a+a')*(c+c')≠(b+b')*(b+b'):=by intro e;rw [e]at key;grind
  grind
theorem numQ_pos (a:Rat):0<a.num↔0<a:=by
 rw [Rat.lt_iff]
 simp
theorem cmpQ_pos (x y:Rat):0<cmpQ x y↔y<x:=by
 unfold cmpQ
 by_cases h:x<y
 ·rw [if_pos h];constructor
  ·intro h2;omega
  ·intro h2;grind
 ·rw [if_neg h]
  by_cases h2:x=y
  ·rw [if_pos h2];constructor
   ·intro h3;omega
   ·intro h3;grind
  ·rw [if_neg h2];constructor
   ·intro _;grind
   ·intro _;omega
theorem defQ_iff (a b c:Rat):defQ a b c=true↔0<a∧b*b<a*c:=by
 unfold defQ
 rw [Bool.and_eq_true,decide_eq_true_eq,decide_eq_true_eq,cmpQ_pos,numQ_pos]
theorem defQ_square (x y z:Rat):defQ (x*x) (x*y) (y*y+z*z)=(decide (0<(x*x).num) && !decide (z=0)):=by
 rw [Bool.eq_iff_iff,defQ_iff,def_square]
 simp only [Bool.and_eq_true,decide_eq_true_eq,Bool.not_eq_true',decide_eq_false_iff_not,numQ_pos]
 constructor
 ·rintro ⟨h1,h2⟩;exact⟨rat_sq_pos h1,h2⟩
 ·rintro ⟨h1,h2⟩;exact⟨by intro e;subst e;grind,h2⟩
theorem defQ_neg (a b c:Rat) (h:0≤a):defQ (-a) b c=false:=by
 cases e:defQ (-a) b c with
 | false=>rfl
 | true=>have:=(defQ_iff _ _ _).1 e;grind
theorem defQ_turn (a b c:Rat):defQ c b a=defQ a b c:=by
 rw [Bool.eq_iff_iff,defQ_iff,defQ_iff]
 constructor
 ·rintro ⟨h1,h2⟩;exact⟨def_turn h1 h2,by grind⟩
 ·rintro ⟨h1,h2⟩;exact⟨def_turn h1 h2,by grind⟩
theorem defQ_sum {a b c a' b' c':Rat} (h:defQ a b c=true) (h':defQ a' b' c'=true):defQ (a+a') (b+b') (c+c')=true:=by
 obtain ⟨h1,h2⟩:=(defQ_iff _ _ _).1 h
 obtain ⟨h1',h2'⟩:=(defQ_iff _ _ _).1 h'
 exact(defQ_iff _ _ _).2 ⟨by grind,def_sum h1 h2 h1' h2'⟩
end Go.Proofs.YtpnlfljfgfkejaaGreat
