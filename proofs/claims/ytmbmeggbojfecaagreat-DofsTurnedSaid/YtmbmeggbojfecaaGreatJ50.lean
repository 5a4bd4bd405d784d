/-
  Part 50 of the proof: FinT.
-/
import Derived.Test.YtmbmeggbojfecaaGreatJ47
import Derived.Test.YtmbmeggbojfecaaGreatJ49
set_option linter.unusedSimpArgs false
set_option linter.unusedVariables false
namespace Go.Proofs.YtmbmeggbojfecaaGreat
open Go.RowKit Gus Go.Maps
set_option maxRecDepth 100000 in
theorem open_By {H:Type} {enc:TypeId×Value→H} {w:World} {b0:Nat} {sp:Nat→Bool} {hd:Bool} {v:Value} {d:DataW H} {ps:List MemPlace} (hval:Value.okWide Tryz.prog w .any b0 22 v) (h:DataW.Trod enc Tryz.prog w 0 sp hd 22 v d ps):
  ∃l:List Nat,BS w v l∧∀b∈l,b<256:=by
 obtain ⟨a,n,c,rfl⟩:∃a n c,v= .slice a n c:=by
  cases v<;>simp [Value.okWide,Tryz.underlying22,Cell.okWide,Cell.ok]at hval
  exact⟨_,_,_,rfl⟩
 obtain ⟨fuel,hf⟩:=h
 exact open_Bs (c:= .slice a n c) (by simpa [Value.cells] using hf)
theorem turned_true (x:RawM) (hx:x.Ok) (c v:Value) (two:Bool) (fb:List Nat) (w:World) (hS:BS w c x.bs) (hF:BS w v fb) (hfb:∀b∈fb,b<256):
  Calls Tryz.prog 4 #[.agg #[.int .u8 (x.nx:Int),.int .u8 (x.ny:Int),c,.int .i8 x.m0,.int .i8 x.m1,.int .i8 x.m2,.int .i8 x.m3,.int .u8 (x.den:Int),.int .u8 (x.fi:Int)],.bool two,v] w (fun e w'=>e= .returned (.bool true)∧Below w.heap.size w w'):=by
 have ho:ordN two=1∨ordN two=2:=by unfold ordN;cases two<;>simp
 obtain ⟨cv,cc,rfl⟩:=hS.at
 exact law_turned x.mesh (ordN two) two rfl x.nx x.ny x.den x.fi x.bs.length cc x.m0 x.m1 x.m2 x.m3 cv v fb w hF hfb (Nat.le_trans x.trisN (by omega)) (Nat.le_trans x.fewN (by omega)) (Nat.le_trans x.sd_len (by omega)) (by have:=x.goodA.one;exact List.length_pos_iff.2 this) x.goodM
  (fun W hW=>m_Mesh x hx _ W (hS.gr hW)) (fun W a b c h=>m_Of x (ordN two) ho W a b c h) (fun W a b c h=>t_Of x fb (ordN two) ho W a b c h)
end Go.Proofs.YtmbmeggbojfecaaGreat
