/-
  Part 30 of the proof: Q.
-/
import Derived.Test.YtpnlfljfgfkejaaGreatJ21
set_option linter.unusedSimpArgs false
set_option linter.unusedVariables false
namespace Go.Proofs.YtpnlfljfgfkejaaGreat
open Go.RowKit Gus
abbrev qV (n:Int) (d:Nat):Value:= .agg #[.int .i64 n,.int .u32 d]
def qQ (n:Int) (d:Nat):Rat:=(n:Rat) / (((if d=0 then 1 else d:Nat):Int):Rat)
set_option maxRecDepth 20000 in
set_option maxHeartbeats 8000000 in
theorem Q_raw {n r:Int} {d e rq:Nat} (he:e=if d=0 then 1 else d) (hd:d<4294967296) (hO:∀w,Calls Tryz.prog 14 #[.int .i64 n,.int .i64 e] w (Ret w (.tuple #[frV r rq,.int .i64 0]))) (w:World):Calls Tryz.prog 5 #[qV n d] w (Ret w (frV r rq)):=by
 have hO:=Lib.hid hO
 have he1:RowKit.wrap64 (max (d:Int) 1)=(e:Int):=by rw [←IntWalk.i64_left,IntKind.wrap_i64,he];split<;>omega
 have HE:=Lib.hid he1
 clear he he1 hd
 go_enter Tryz.func5,Tryz.ntmps5
 go_wp2_with fail
 rw [HE.out]
 generalize max (d:Int) 1=mx at *
 (refine(hO.out _).mono ?_;rintro e w1 ⟨rfl,hg1⟩;(try (with_reducible replace hg1:=Gr.of_drew hg1));have hsz1:=hg1.size;(try simp at hsz1);have hz1_0:w.heap.size<w1.heap.size:=(by omega);have hz1_1:w.heap.size+1<w1.heap.size:=(by omega);obtain ⟨hc1,hf1⟩:=hg1.cells;have HG1:=Lib.hid hg1;clear hg1)
 clear HE
 go_wp2
 refine ret_row (g:=w.heap.size+1) (cs:=frC r rq) Tryz.results5 rfl ?_ Tryz.underlying34 rfl info_Frac rfl ⟨rfl,?_⟩
 ·(with_reducible (repeat' (first|(refine VB.new' ?_;exact(by first|omega|(simp;done)|(simp;omega)))|apply VB.put2|apply VB.put3|apply VB.put5|refine VB.drew ?_|refine VB.far ?_ ?_ _|refine VB.alloc ?_ _|refine VB.gr ?_ HG1.out ?_|omega|(simp;done)|(simp;omega))))
 ·(with_reducible (repeat' (first|exact Gr.refl _ _|refine Gr.drew ?_|refine Gr.setCell ?_ ?_ _|refine Gr.alloc ?_ ?_ _|refine Gr.trans ?_ (Gr.mono HG1.out ?_)|omega|(simp;done)|(simp;omega))))
theorem q_Of (n:Int) (d:Nat) (w:World) (h1: -9223372036854775808≤n) (h2:n≤9223372036854775807) (hd:d<4294967296):Calls Tryz.prog 5 #[qV n d] w (Ret w (fracV (qQ n d))):=by
 refine Q_raw (e:=if d=0 then 1 else d) rfl hd (fun w=>?_) w
 exact fr_Of n ((if d=0 then 1 else d:Nat):Int) w h1 h2 (by split<;>omega) (by split<;>omega) (by split<;>omega)
abbrev q3V (a0:Int) (b0:Nat) (a1:Int) (b1:Nat) (a2:Int) (b2:Nat):Value:= .agg #[.int .i64 a0,.int .u32 b0,.int .i64 a1,.int .u32 b1,.int .i64 a2,.int .u32 b2]
theorem info_F3:(Tryz.prog.info? 35).map (·.size)=some 15:=by kernel_rfl
set_option maxRecDepth 20000 in
set_option maxHeartbeats 8000000 in
theorem three_raw {a0 a1 a2 n0 n1 n2:Int} {b0 b1 b2 m0 m1 m2:Nat} (h0:∀w,Calls Tryz.prog 5 #[qV a0 b0] w (Ret w (frV n0 m0))) (h1:∀w,Calls Tryz.prog 5 #[qV a1 b1] w (Ret w (frV n1 m1))) (h2:∀w,Calls Tryz.prog 5 #[qV a2 b2] w (Ret w (frV n2 m2))) (w:World):Calls Tryz.prog 12 #[q3V a0 b0 a1 b1 a2 b2] w (Ret w (f3V n0 m0 n1 m1 n2 m2)):=by
 have h0:=Lib.hid h0
 have h1:=Lib.hid h1
 have h2:=Lib.hid h2
 go_enter Tryz.func12,Tryz.ntmps12
 go_wp2_with fail
 refine wp_region_held_drew (S:=(fun w'=>w'.cell? ⟨w.heap.size,0,none⟩=some (.int .i64 a0)∧w'.cell? ⟨w.heap.size,1,none⟩=some (.int .u32 b0)∧w'.cell? ⟨w.heap.size,2,none⟩=some (.int .i64 a1)∧w'.cell? ⟨w.heap.size,3,none⟩=some (.int .u32 b1)∧w'.cell? ⟨w.heap.size,4,none⟩=some (.int .i64 a2)∧w'.cell? ⟨w.heap.size,5,none⟩=some (.int .u32 b2))) (by kernel_rfl) ?_ (fun hHeld=>?_)
 ·simp [go_sem, *]
 refine tk 0 (some 3) (.pointer (some ⟨w.heap.size,0,none⟩)) ?_
 try simp only [pS]
 refine tk 1 (some 4) (.agg #[.int .i64 a0,.int .u32 b0]) ?_
 try simp only [pS]
 refine tk 3 (some 6) (.pointer (some ⟨w.heap.size,2,none⟩)) ?_
 try simp only [pS]
 refine tk 4 (some 7) (.agg #[.int .i64 a1,.int .u32 b1]) ?_
 try simp only [pS]
 refine tk 6 (some 9) (.pointer (some ⟨w.heap.size,4,none⟩)) ?_
 try simp only [pS]
 refine tk 7 (some 10) (.agg #[.int .i64 a2,.int .u32 b2]) ?_
 try simp only [pS]
 refine rd 2 (fun K hK=>?_)
 go_simp
 (refine(h0.out _).mono ?_;rintro e w1 ⟨rfl,hg1⟩;(try (with_reducible replace hg1:=Gr.of_drew hg1));have hsz1:=hg1.size;(try simp at hsz1);have hz1_0:w.heap.size<w1.heap.size:=(by omega);have hz1_1:w.heap.size+1<w1.heap.size:=(by omega);obtain ⟨hc1,hf1⟩:=hg1.cells;have HG1:=Lib.hid hg1;clear hg1)
 (try dsimp only)
 refine hK.out _ _ ?_ (fun hQ1=>?_)
 ·(first|exact trivial|((try dsimp only);simp [go_sem, *]))
 clear hK K hHeld
 try simp only [pS]
 refine rd 5 (fun K hK=>?_)
 go_simp
 (refine(h1.out _).mono ?_;rintro e w2 ⟨rfl,hg2⟩;(try (with_reducible replace hg2:=Gr.of_drew hg2));have hsz2:=hg2.size;(try simp at hsz2);have hz2_0:w.heap.size<w2.heap.size:=(by omega);have hz2_1:w.heap.size+1<w2.heap.size:=(by omega);obtain ⟨hc2,hf2⟩:=hg2.cells;have HG2:=Lib.hid hg2;clear hg2)
 (try dsimp only)
 refine hK.out _ _ ?_ (fun hQ2=>?_)
 ·(first|exact trivial|((try dsimp only);simp [go_sem, *]))
 clear hK K hQ1
 try simp only [pS]
 refine rd 8 (fun K hK=>?_)
 go_simp
 (refine(h2.out _).mono ?_;rintro e w3 ⟨rfl,hg3⟩;(try (with_reducible replace hg3:=Gr.of_drew hg3));have hsz3:=hg3.size;(try simp at hsz3);have hz3_0:w.heap.size<w3.heap.size:=(by omega);have hz3_1:w.heap.size+1<w3.heap.size:=(by omega);obtain ⟨hc3,hf3⟩:=hg3.cells;have HG3:=Lib.hid hg3;clear hg3)
 (try dsimp only)
 refine hK.out _ _ ?_ (fun hQ3=>?_)
 ·(first|exact trivial|((try dsimp only);simp [go_sem, *]))
 clear hK K hQ2
 try simp only [pS]
 refine tk 9 (some 12) (.agg #[.int .u64 (lowN (sz n0)),.string (bigS (sz n0)),.bool (ng n0),.int .u64 (lowN m0),.string (bigS m0),.int .u64 (lowN (sz n1)),.string (bigS (sz n1)),.bool (ng n1),.int .u64 (lowN m1),.string (bigS m1),.int .u64 (lowN (sz n2)),.string (bigS (sz n2)),.bool (ng n2),.int .u64 (lowN m2),.string (bigS m2)]) ?_
 try simp only [pS]
 refine wpAnyH_ready (rs:= [10]) (by kernel_rfl) (by simp) ?_
 refine AllReadyH.cons (o:=⟨none,_,_,_,_,_⟩) rfl (fun K hK=>?_) AllReadyH.nil
 rw [if_pos (by rfl)]
 refine wp_store_mid 35 _ _ rfl (w.heap.size+1) 0 (List.toArray [.int .u64 (lowN (sz n0)),.string (bigS (sz n0)),.bool (ng n0),.int .u64 (lowN m0),.string (bigS m0),.int .u64 (lowN (sz n1)),.string (bigS (sz n1)),.bool (ng n1),.int .u64 (lowN m1),.string (bigS m1),.int .u64 (lowN (sz n2)),.string (bigS (sz n2)),.bool (ng n2),.int .u64 (lowN m2),.string (bigS m2)]) rfl rfl (VB.there (cs:= [.int .u64 0,.string ⟨#[]⟩,.bool false,.int .u64 0,.string ⟨#[]⟩,.int .u64 0,.string ⟨#[]⟩,.bool false,.int .u64 0,.string ⟨#[]⟩,.int .u64 0,.string ⟨#[]⟩,.bool false,.int .u64 0,.string ⟨#[]⟩]) ?_) info_F3 (by first|rfl|simp [Value.oneCell']) ?_
 ·(with_reducible (repeat' (first|(refine VB.new' ?_;exact(by first|omega|(simp;done)|(simp;omega)))|apply VB.put2|apply VB.put3|apply VB.put5|refine VB.drew ?_|refine VB.far ?_ ?_ _|refine VB.alloc ?_ _|refine VB.gr ?_ HG3.out ?_|refine VB.gr ?_ HG2.out ?_|refine VB.gr ?_ HG1.out ?_|omega|(simp;done)|(simp;omega))))
 simp only [pS]
 refine hK.out _ _ ?_ (fun hQ4=>?_)
 ·have hh:=hQ3;(try dsimp only at hh ⊢);simp only [cell_sets_ne (show w.heap.size≠w.heap.size+1 by omega)];exact hh
 clear hK K hQ3
 refine wpAnyH_done (by kernel_rfl) ?_ _
 go_wp2
 refine ret_row (g:=w.heap.size+1) Tryz.results12 rfl (VB.set (cs:= [.int .u64 0,.string ⟨#[]⟩,.bool false,.int .u64 0,.string ⟨#[]⟩,.int .u64 0,.string ⟨#[]⟩,.bool false,.int .u64 0,.string ⟨#[]⟩,.int .u64 0,.string ⟨#[]⟩,.bool false,.int .u64 0,.string ⟨#[]⟩]) ?_ [.int .u64 (lowN (sz n0)),.string (bigS (sz n0)),.bool (ng n0),.int .u64 (lowN m0),.string (bigS m0),.int .u64 (lowN (sz n1)),.string (bigS (sz n1)),.bool (ng n1),.int .u64 (lowN m1),.string (bigS m1),.int .u64 (lowN (sz n2)),.string (bigS (sz n2)),.bool (ng n2),.int .u64 (lowN m2),.string (bigS m2)] rfl) Tryz.underlying35 rfl info_F3 rfl ⟨rfl,?_⟩
 ·(with_reducible (repeat' (first|(refine VB.new' ?_;exact(by first|omega|(simp;done)|(simp;omega)))|apply VB.put2|apply VB.put3|apply VB.put5|refine VB.drew ?_|refine VB.far ?_ ?_ _|refine VB.alloc ?_ _|refine VB.gr ?_ HG3.out ?_|refine VB.gr ?_ HG2.out ?_|refine VB.gr ?_ HG1.out ?_|omega|(simp;done)|(simp;omega))))
 ·exact Gr.sets (by omega) _ _ (by(with_reducible (repeat' (first|exact Gr.refl _ _|refine Gr.drew ?_|refine Gr.setCell ?_ ?_ _|refine Gr.alloc ?_ ?_ _|refine Gr.trans ?_ (Gr.mono HG3.out ?_)|refine Gr.trans ?_ (Gr.mono HG2.out ?_)|refine Gr.trans ?_ (Gr.mono HG1.out ?_)|omega|(simp;done)|(simp;omega)))))
end Go.Proofs.YtpnlfljfgfkejaaGreat
