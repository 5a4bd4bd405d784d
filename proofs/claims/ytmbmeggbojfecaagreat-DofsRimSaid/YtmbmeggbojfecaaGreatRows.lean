/-
  No cell of these rows narrows 'for every input' (looked for: loops, veiled, ifaces, maps, wideKeys, modest, calm, conditions, laid).
  DERIVED. THE GIVEN ROWS OF THIS SEAT. 3 by the template 'for every input the law returns true; each argument reads behind the call as it read before'; 0 by the template 'total and deterministic' (their statements: YtmbmeggbojfecaaGreatTotals.lean).
  GIVEN WITH THE SEED: the statements are not yours to turn. If you find one false, say at which input.
  Laid BY PROGRAM, IN A SANDBOX (cutbox-rows.mjs): the forced cells as the released guide's own fill.sh prints them over the translation 83431e74f1a2ca9c… (all of the seat's roots in one cut). By AI agents, Wed Nov 11 2026. No macro, syntax, notation, axiom, sorry.
-/
import Derived.Test.YtmbmeggbojfecaaGreatChecked
import GoSem.Claim
import GoSem.ClaimJoined
import GoSem.ClaimMapViews
import Derived.JoinedTies
import Derived.KernelRfl
namespace Go.Proofs.YtmbmeggbojfecaaGreat
/- THE CELL 'sum', in the pinned program and in every row, IS THE sha256 OF THE DUMP (.gsa) THAT YtmbmeggbojfecaaGreatProg.lean LOADS. Nothing in Lean hashes anything: it is a label: what it is worth is what the hold of that sum in a sandbox is worth. -/
noncomputable def Tryz.pinned : Pinned := { name := "ytmbmeggbojfecaagreat", sum := "83431e74f1a2ca9cdfcb818e370c7d0d5a59aad632cd79974a545349cfb5e507", checked := Tryz.checked }
namespace Rows
def none {H : Type} : Left H := { results := [], args := [] }

/-- 'gussetlaw35.DofsShared': WHATEVER THE INPUT: true; the input reads as it did. -/
def dofsSharedSpec : ChangeSpec := { name := "dofsShared", fn := fun _ => fun
  | [d1, d2, d3] => { results := [.lit (.bool true)], args := [d1, d2, d3] }
  | _ => none }
def dofsSharedRow : OpenClaim := { program := "ytmbmeggbojfecaagreat", sum := "83431e74f1a2ca9cdfcb818e370c7d0d5a59aad632cd79974a545349cfb5e507", func := "gusset/gussetlaw35.DofsShared", spec := "dofsShared", inPlace := ["math/bits.Add64"], unfollowed := true, recurses := true, named := ["math/bits.overflowError"], plainKeys := false, apart := false }
def DofsSharedSaid : Prop := dofsSharedRow.holds Tryz.pinned (OpenSpec.ofChange dofsSharedSpec)

/-- ITS FALSE NEIGHBOUR: 'it returns false'. Refute it at one input. -/
def dofsSharedWrong : ChangeSpec := { name := "dofsShared", fn := fun _ => fun
  | [d1, d2, d3] => { results := [.lit (.bool false)], args := [d1, d2, d3] }
  | _ => none }
def DofsSharedWrongFalsely : Prop := dofsSharedRow.holds Tryz.pinned (OpenSpec.ofChange dofsSharedWrong)

/-- 'gussetlaw35.DofsTurned': WHATEVER THE INPUT: true; the input reads as it did. -/
def dofsTurnedSpec : ChangeSpec := { name := "dofsTurned", fn := fun _ => fun
  | [d1, d2, d3] => { results := [.lit (.bool true)], args := [d1, d2, d3] }
  | _ => none }
def dofsTurnedRow : OpenClaim := { program := "ytmbmeggbojfecaagreat", sum := "83431e74f1a2ca9cdfcb818e370c7d0d5a59aad632cd79974a545349cfb5e507", func := "gusset/gussetlaw35.DofsTurned", spec := "dofsTurned", inPlace := ["math/bits.Add64"], unfollowed := true, recurses := true, named := ["math/bits.overflowError"], plainKeys := false, apart := false }
def DofsTurnedSaid : Prop := dofsTurnedRow.holds Tryz.pinned (OpenSpec.ofChange dofsTurnedSpec)

/-- ITS FALSE NEIGHBOUR: 'it returns false'. Refute it at one input. -/
def dofsTurnedWrong : ChangeSpec := { name := "dofsTurned", fn := fun _ => fun
  | [d1, d2, d3] => { results := [.lit (.bool false)], args := [d1, d2, d3] }
  | _ => none }
def DofsTurnedWrongFalsely : Prop := dofsTurnedRow.holds Tryz.pinned (OpenSpec.ofChange dofsTurnedWrong)

/-- 'gussetlaw35.DofsRim': WHATEVER THE INPUT: true; the input reads as it did. -/
def dofsRimSpec : ChangeSpec := { name := "dofsRim", fn := fun _ => fun
  | [d1, d2] => { results := [.lit (.bool true)], args := [d1, d2] }
  | _ => none }
def dofsRimRow : OpenClaim := { program := "ytmbmeggbojfecaagreat", sum := "83431e74f1a2ca9cdfcb818e370c7d0d5a59aad632cd79974a545349cfb5e507", func := "gusset/gussetlaw35.DofsRim", spec := "dofsRim", inPlace := ["math/bits.Add64"], unfollowed := true, recurses := true, named := ["math/bits.overflowError"], plainKeys := false, apart := false }
def DofsRimSaid : Prop := dofsRimRow.holds Tryz.pinned (OpenSpec.ofChange dofsRimSpec)

/-- ITS FALSE NEIGHBOUR: 'it returns false'. Refute it at one input. -/
def dofsRimWrong : ChangeSpec := { name := "dofsRim", fn := fun _ => fun
  | [d1, d2] => { results := [.lit (.bool false)], args := [d1, d2] }
  | _ => none }
def DofsRimWrongFalsely : Prop := dofsRimRow.holds Tryz.pinned (OpenSpec.ofChange dofsRimWrong)

/- THE SECOND FORM. 'bulk': how many values and letters a reading holds, each counted each time it is reached (what is shared counts as often as it is met; a slice's spare places count too). A statement '..UptoSaid' is the law's where the arguments, and the package variables that the reading takes, are together of bulk at most 1048576: NARROWER than '..Said'. Prove '..Said' where nothing that the law and all that it calls make is longer than what came in: it says more and counts as full. Else prove '..UptoSaid'. A law counts once. -/
mutual
def uptoBulk {H : Type} : DataW H → Nat
  | .lit (.string bytes) => bytes.length + 1
  | .lit _ => 1
  | .nil => 1
  | .ptr d => uptoBulk d + 1
  | .slice elems spare => uptoBulkAll elems + uptoBulkAll spare + 1
  | .agg parts => uptoBulkAll parts + 1
  | .iface _ d => uptoBulk d + 1
  | .map entries => uptoBulkEntries entries + 1
  | .held _ => 1
def uptoBulkAll {H : Type} : List (DataW H) → Nat
  | [] => 0
  | d :: r => uptoBulk d + uptoBulkAll r
def uptoBulkEntries {H : Type} : List (Lit × DataW H) → Nat
  | [] => 0
  | x :: r => uptoBulkEntry x + uptoBulkEntries r
def uptoBulkEntry {H : Type} : Lit × DataW H → Nat
  | (.string bytes, d) => bytes.length + uptoBulk d + 1
  | (_, d) => uptoBulk d + 1
 end
def uptoSmall : (H : Type) → List (DataW H) → Bool := fun _ ds => decide (uptoBulkAll ds ≤ 1048576)
def OpenSpec.upto (s : _root_.Go.ChangeSpec) : _root_.Go.OpenSpec := { _root_.Go.OpenSpec.ofChange s with cond := some uptoSmall }

/-- 'gussetlaw35.DofsShared', WHERE WHAT IT READS IS OF BULK AT MOST 1048576: true; the input reads as it did. -/
def dofsSharedUptoRow : OpenClaim := { program := "ytmbmeggbojfecaagreat", sum := "83431e74f1a2ca9cdfcb818e370c7d0d5a59aad632cd79974a545349cfb5e507", func := "gusset/gussetlaw35.DofsShared", spec := "dofsShared", inPlace := ["math/bits.Add64"], unfollowed := true, recurses := true, named := ["math/bits.overflowError"], plainKeys := false, apart := false, narrowed := true }
def DofsSharedUptoSaid : Prop := dofsSharedUptoRow.holds Tryz.pinned (OpenSpec.upto dofsSharedSpec)

/-- 'gussetlaw35.DofsTurned', WHERE WHAT IT READS IS OF BULK AT MOST 1048576: true; the input reads as it did. -/
def dofsTurnedUptoRow : OpenClaim := { program := "ytmbmeggbojfecaagreat", sum := "83431e74f1a2ca9cdfcb818e370c7d0d5a59aad632cd79974a545349cfb5e507", func := "gusset/gussetlaw35.DofsTurned", spec := "dofsTurned", inPlace := ["math/bits.Add64"], unfollowed := true, recurses := true, named := ["math/bits.overflowError"], plainKeys := false, apart := false, narrowed := true }
def DofsTurnedUptoSaid : Prop := dofsTurnedUptoRow.holds Tryz.pinned (OpenSpec.upto dofsTurnedSpec)

/-- 'gussetlaw35.DofsRim', WHERE WHAT IT READS IS OF BULK AT MOST 1048576: true; the input reads as it did. -/
def dofsRimUptoRow : OpenClaim := { program := "ytmbmeggbojfecaagreat", sum := "83431e74f1a2ca9cdfcb818e370c7d0d5a59aad632cd79974a545349cfb5e507", func := "gusset/gussetlaw35.DofsRim", spec := "dofsRim", inPlace := ["math/bits.Add64"], unfollowed := true, recurses := true, named := ["math/bits.overflowError"], plainKeys := false, apart := false, narrowed := true }
def DofsRimUptoSaid : Prop := dofsRimUptoRow.holds Tryz.pinned (OpenSpec.upto dofsRimSpec)

end Rows
end Go.Proofs.YtmbmeggbojfecaaGreat
