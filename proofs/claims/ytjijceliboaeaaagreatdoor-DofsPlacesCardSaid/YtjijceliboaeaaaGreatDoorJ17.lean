/-
  Part 17 of the proof: Q.
-/
import Derived.Test.YtjijceliboaeaaaGreatDoorJ10
import Derived.Test.YtjijceliboaeaaaGreatDoorJ14
set_option linter.unusedSimpArgs false
set_option linter.unusedVariables false
namespace Go.Proofs.YtjijceliboaeaaaGreatDoor
open Go.RowKit Gus
abbrev qV (n:Int) (d:Nat):Value:= .agg #[.int .i64 n,.int .u32 d]
def qQ (n:Int) (d:Nat):Rat:=(n:Rat) / (((if d=0 then 1 else d:Nat):Int):Rat)
set_option maxRecDepth 20000 in
set_option maxHeartbeats 8000000 in
theorem Q_raw {n r:Int} {d e rq:Nat} (he:e=if d=0 then 1 else d) (hd:d<4294967296) (hO:∀w,Calls Tryz.prog 28 #[.int .i64 n,.int .i64 e] w (Ret w (.tuple #[frV r rq,.int .i64 0]))) (w:World):Calls Tryz.prog 38 #[qV n d] w (Ret w (frV r rq)):=by
 have hO:=Lib.hid hO
 have he1:RowKit.wrap64 (max (d:Int) 1)=(e:Int):=by rw [←IntWalk.i64_left,IntKind.wrap_i64,he];split<;>omega
 have HE:=Lib.hid he1
 clear he he1 hd
 go_enter Tryz.func38,Tryz.ntmps38
 go_wp2_with fail
 rw [HE.out]
 generalize max (d:Int) 1=mx at *
 (refine(hO.out _).mono ?_;rintro e w1 ⟨rfl,hg1⟩;(try (with_reducible replace hg1:=Gr.of_drew hg1));have hsz1:=hg1.size;(try simp at hsz1);have hz1_0:w.heap.size<w1.heap.size:=(by omega);have hz1_1:w.heap.size+1<w1.heap.size:=(by omega);obtain ⟨hc1,hf1⟩:=hg1.cells;have HG1:=Lib.hid hg1;clear hg1)
 clear HE
 go_wp2
 refine ret_row (g:=w.heap.size+1) (cs:=frC r rq) Tryz.results38 rfl ?_ Tryz.underlying53 rfl info_Frac rfl ⟨rfl,?_⟩
 ·(with_reducible (repeat' (first|(refine VB.new' ?_;exact(by first|omega|(simp;done)|(simp;omega)))|apply VB.put2|apply VB.put3|apply VB.put5|refine VB.drew ?_|refine VB.far ?_ ?_ _|refine VB.alloc ?_ _|refine VB.gr ?_ HG1.out ?_|omega|(simp;done)|(simp;omega))))
 ·(with_reducible (repeat' (first|exact Gr.refl _ _|refine Gr.drew ?_|refine Gr.setCell ?_ ?_ _|refine Gr.alloc ?_ ?_ _|refine Gr.trans ?_ (Gr.mono HG1.out ?_)|omega|(simp;done)|(simp;omega))))
theorem q_Of (n:Int) (d:Nat) (w:World) (h1: -9223372036854775808≤n) (h2:n≤9223372036854775807) (hd:d<4294967296):Calls Tryz.prog 38 #[qV n d] w (Ret w (fracV (qQ n d))):=by
 refine Q_raw (e:=if d=0 then 1 else d) rfl hd (fun w=>?_) w
 exact fr_Of n ((if d=0 then 1 else d:Nat):Int) w h1 h2 (by split<;>omega) (by split<;>omega) (by split<;>omega)
abbrev q3V (a0:Int) (b0:Nat) (a1:Int) (b1:Nat) (a2:Int) (b2:Nat):Value:= .agg #[.int .i64 a0,.int .u32 b0,.int .i64 a1,.int .u32 b1,.int .i64 a2,.int .u32 b2]
theorem info_F3:(Tryz.prog.info? 60).map (·.size)=some 15:=by kernel_rfl
end Go.Proofs.YtjijceliboaeaaaGreatDoor
