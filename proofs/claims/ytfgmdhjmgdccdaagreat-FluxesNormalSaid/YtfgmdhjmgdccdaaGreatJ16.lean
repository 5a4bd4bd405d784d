/-
  Part 16 of the proof: Beyond.
-/
import Derived.Test.YtfgmdhjmgdccdaaGreatJ14
import Derived.Test.YtfgmdhjmgdccdaaGreatJ15
set_option linter.unusedSimpArgs false
set_option linter.unusedVariables false
namespace Go.Proofs.YtfgmdhjmgdccdaaGreat
open Go.RowKit Gus
structure BeyS (w wr wx:World) (gp gq:Nat) (p q:Pt):Prop where
 p:VB wx gp (pC p)
 q:VB wx gq (pC q)
 gr:Gr wr.heap.size wr wx
theorem Shx.new (w:World) (cs:Array Value) (t:TypeId):Shx (w.alloc (.cells cs t)) w.heap.size t:=⟨cs.size,cs,(MapKept.heap_alloc w _).1,rfl⟩
theorem Shx.gr {w w':World} {g B:Nat} {t:TypeId} (h:Shx w g t) (hg:Gr B w w') (hB:g<B):Shx w' g t:=by obtain ⟨N,h⟩:=h;exact⟨N,h.gr hg hB⟩
theorem SR.three {w:World} {g:Nat} {t:TypeId} {d e f:Pt} (h:VB w g (c3C d e f)) (hs:Shx w g t):SR pC 10 t w 0 (.slice (some ⟨g,0,none⟩) 3 3) [d,e,f]:=
 .inr ⟨g,3,rfl,Nat.zero_le _,Nat.le_refl _,by simp [maxLen],hs,RC.of_flat pC_len fun i u hu=>h.c i u hu⟩
theorem VB.fars {g b:Nat} {cs:List Value} (hne:b≠g):∀(vs:List Value) (o:Nat) {w:World},VB w g cs→VB (w.setCells b o vs) g cs
 | [],_,_,h=>h
 | v :: r,o,_,h=>VB.fars hne r (o+1) (h.far hne v)
end Go.Proofs.YtfgmdhjmgdccdaaGreat
