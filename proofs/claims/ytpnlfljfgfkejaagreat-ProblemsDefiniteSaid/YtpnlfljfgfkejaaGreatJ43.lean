/-
  Part 43 of the proof: Fin.
-/
import Derived.Test.YtpnlfljfgfkejaaGreatJ41
import Derived.Test.YtpnlfljfgfkejaaGreatJ39
import Derived.Test.YtpnlfljfgfkejaaGreatJ42
import Derived.WalkKit
import Derived.WalkSpells
import Derived.WalkLawsBesides
import Derived.Deep.RegionHeld3
import Derived.Deep.QuietTactic
import Derived.BigQuiet
import Derived.Deep.RegionWith
import Derived.KernelRfl
import Derived.Lib.Hide
import Derived.Maps.AppendAt
import Derived.Deep.AppendLies
import Derived.Laws.MakeOwn
import Derived.Laws.BitsAllLaws
import Derived.Laws.BytesArg
import Derived.Laws.StructEq
import Derived.Shelf.Spec.BitsCarry
import Derived.Deep.DeepCutAuto
import Derived.Laws.CopyOwn
import Derived.Deep.CutBlock
import Derived.Deep.CutRange
import Derived.Deep.MidRow
import Derived.Shelf.SlSortCmp.InsertionK
import Derived.Shelf.SlicesQ.Load
import Derived.Lib.SliceRun
import Derived.Shelf.SlSortCmp.NoneTotal
import Derived.Maps.OwnSet
import Derived.Maps.OwnOps
import Derived.Maps.Views
import Derived.DeepKeys4
import Derived.Maps.RangeWalk
import Derived.WideKeyEntry
import Derived.WalkMore
import Derived.Shelf.Abstract
import Derived.Deep.Upon
set_option linter.unusedSimpArgs false
set_option linter.unusedVariables false
namespace Go.Proofs.YtpnlfljfgfkejaaGreat
open Go.RowKit Gus
theorem hw_qQ (n:Int) (d:Nat) (h1: -9223372036854775808≤n) (h2:n≤9223372036854775807) (hd:d<4294967296):hw (qQ n d)≤4:=by
 unfold qQ
 have h0:(((if d=0 then 1 else d:Nat):Int):Rat).num≠0:=by
  show((if d=0 then 1 else d:Nat):Int)≠0
  split<;>omega
 rw [Rat.div_def]
 have a:=hw_mul (n:Rat) (((if d=0 then 1 else d:Nat):Int):Rat)⁻¹
 have b:=hw_inv _ h0
 have c:=hw_int n h1 h2
 have e:=hw_int ((if d=0 then 1 else d:Nat):Int) (by split<;>omega) (by split<;>omega)
 omega
theorem law_true (a0 a1 a2 c0 c1 c2:Int) (b0 b1 b2 d0 d1 d2:Nat) (p0: -9223372036854775808≤a0∧a0≤9223372036854775807) (p1: -9223372036854775808≤a1∧a1≤9223372036854775807) (p2: -9223372036854775808≤a2∧a2≤9223372036854775807)
  (q0: -9223372036854775808≤c0∧c0≤9223372036854775807) (q1: -9223372036854775808≤c1∧c1≤9223372036854775807) (q2: -9223372036854775808≤c2∧c2≤9223372036854775807)
  (r0:b0<4294967296) (r1:b1<4294967296) (r2:b2<4294967296) (s0:d0<4294967296) (s1:d1<4294967296) (s2:d2<4294967296) (w:World):
  Calls Tryz.prog 3 #[q3V a0 b0 a1 b1 a2 b2,q3V c0 d0 c1 d1 c2 d2] w (Ret w (.bool true)):=by
 obtain ⟨x,hx⟩:∃x,x=qQ a0 b0:=⟨_,rfl⟩
 obtain ⟨y,hy⟩:∃x,x=qQ a1 b1:=⟨_,rfl⟩
 obtain ⟨z,hz⟩:∃x,x=qQ a2 b2:=⟨_,rfl⟩
 obtain ⟨k,hk⟩:∃x,x=qQ c0 d0:=⟨_,rfl⟩
 obtain ⟨l,hl⟩:∃x,x=qQ c1 d1:=⟨_,rfl⟩
 obtain ⟨m,hm⟩:∃x,x=qQ c2 d2:=⟨_,rfl⟩
 have ox:∀w,Calls Tryz.prog 5 #[qV a0 b0] w (Ret w (fracV x)):=fun w=>hx ▸ q_Of a0 b0 w p0.1 p0.2 r0
 have oy:∀w,Calls Tryz.prog 5 #[qV a1 b1] w (Ret w (fracV y)):=fun w=>hy ▸ q_Of a1 b1 w p1.1 p1.2 r1
 have oz:∀w,Calls Tryz.prog 5 #[qV a2 b2] w (Ret w (fracV z)):=fun w=>hz ▸ q_Of a2 b2 w p2.1 p2.2 r2
 have ok:∀w,Calls Tryz.prog 5 #[qV c0 d0] w (Ret w (fracV k)):=fun w=>hk ▸ q_Of c0 d0 w q0.1 q0.2 s0
 have ol:∀w,Calls Tryz.prog 5 #[qV c1 d1] w (Ret w (fracV l)):=fun w=>hl ▸ q_Of c1 d1 w q1.1 q1.2 s1
 have om:∀w,Calls Tryz.prog 5 #[qV c2 d2] w (Ret w (fracV m)):=fun w=>hm ▸ q_Of c2 d2 w q2.1 q2.2 s2
 have bx:hw x≤4:=hx ▸ hw_qQ a0 b0 p0.1 p0.2 r0
 have by':hw y≤4:=hy ▸ hw_qQ a1 b1 p1.1 p1.2 r1
 have bz:hw z≤4:=hz ▸ hw_qQ a2 b2 p2.1 p2.2 r2
 have bk:hw k≤4:=hk ▸ hw_qQ c0 d0 q0.1 q0.2 s0
 have bl:hw l≤4:=hl ▸ hw_qQ c1 d1 q1.1 q1.2 s1
 have bm:hw m≤4:=hm ▸ hw_qQ c2 d2 q2.1 q2.2 s2
 clear hx hy hz hk hl hm
 have bxx:=hw_mul x x
 have bxy:=hw_mul x y
 have byy:=hw_mul y y
 have bzz:=hw_mul z z
 have bs:=hw_add (y*y) (z*z)
 have bn0:=hw_neg (x*x)
 have bn2:=hw_neg (y*y+z*z)
 have c0':=hw_add (x*x) k
 have c1':=hw_add (x*y) l
 have c2':=hw_add (y*y+z*z) m
 have hg:=defQ_square x y z
 refine law_raw a0 a1 a2 c0 c1 c2 b0 b1 b2 d0 d1 d2 (x*x) (x*y) (y*y+z*z) k l m (x*x+k) (x*y+l) (y*y+z*z+m) (-(x*x)) (-(y*y+z*z)) (lowN (sz z.num)) (bigS (sz z.num)) (ng z.num) (lowN (fm z)) (bigS (fm z)) (sgnI (x*x).num) (defQ (x*x) (x*y) (y*y+z*z)) (defQ k l m) ?_
  (fun w=>square_raw ox oy oz (fun w=>fr_Square x w (by omega)) (fun w=>fr_Mul x y w (by omega) (by omega)) (fun w=>fr_Square y w (by omega)) (fun w=>fr_Square z w (by omega)) (fun w=>fr_Add (y*y) (z*z) w (by omega) (by omega)) w)
  (fun w=>fr_Sign (x*x) w) oz (fun w=>pr_Definite _ _ _ w (by omega) (by omega) (by omega)) (fun w=>fr_Neg (x*x) w) (fun w=>fr_Neg (y*y+z*z) w)
  (fun w=>?_) (fun w=>three_raw ok ol om w) (fun w=>pr_Definite k l m w (by omega) (by omega) (by omega)) (fun w=>?_)
  (fun w=>fr_Add _ _ w (by omega) (by omega)) (fun w=>fr_Add _ _ w (by omega) (by omega)) (fun w=>fr_Add _ _ w (by omega) (by omega)) (fun h1 h2 w=>?_) lives_true w
 ·have hs:0<sgnI (x*x).num↔0<(x*x).num:=by
   unfold sgnI
   split
   ·omega
   ·split<;>omega
  rw [hg]
  by_cases h1:0<(x*x).num
  ·by_cases h2:z=0
   ·subst h2
    exact .inr (.inl ⟨hs.2 h1,rfl,rfl,rfl,rfl,rfl,by simp⟩)
   ·have h3:(decide (0<(x*x).num) && !decide (z=0))=true:=by simp [h1,h2]
    rcases frac_ne h2 with h4|⟨h4,h5⟩
    ·exact .inr (.inr (.inl ⟨hs.2 h1,h4,h3⟩))
    ·exact .inr (.inr (.inr ⟨hs.2 h1,h4,h5,h3⟩))
  ·exact .inl ⟨fun h=>h1 (hs.1 h),by simp [h1]⟩
 ·have h:=pr_Definite (-(x*x)) (x*y) (-(y*y+z*z)) w (by omega) (by omega) (by omega)
  rwa [defQ_neg _ _ _ (rat_sq_nonneg x)]at h
 ·have h:=pr_Definite m l k w (by omega) (by omega) (by omega)
  rwa [defQ_turn]at h
 ·have h:=pr_Definite (x*x+k) (x*y+l) (y*y+z*z+m) w (by omega) (by omega) (by omega)
  rwa [defQ_sum h1 h2]at h
end Go.Proofs.YtpnlfljfgfkejaaGreat
