/-
  Part 39 of the proof: LivK Lin.
-/
import Derived.Test.YtmelogdhllhjiaaGreatJ22
import Derived.Test.YtmelogdhllhjiaaGreatJ23
import Derived.Maps.RangeWalk
import Derived.WideKeyEntry
import Derived.WalkMore
import Derived.Shelf.Abstract
import Derived.Deep.Upon
set_option linter.unusedSimpArgs false
set_option linter.unusedVariables false
namespace Go.Proofs.YtmelogdhllhjiaaGreat
open Go.RowKit Gus
def uT:List T:= [⟨2,0,1⟩,⟨0,2,1⟩]
def xyT:List T:= [⟨1,1,1⟩]
def uL:List T:=gat uT
def xyL:List T:=gat xyT
def sL:List T:=sourceL 1 0 1 0 uL
def s1L:List T:=sourceL 1 0 1 1 uL
def h0L:List T:=flow1 2 1 xyL
def h1L:List T:=flow1 1 3 xyL
def uuL:List T:=addL uL []
def k0L:List T:=flow1 1 0 uL
def k1L:List T:=flow1 0 1 uL
abbrev okL (l:List T):Prop:= ∀t∈l,t.ok
theorem ok_uT:okL uT:=by decide+kernel
theorem ok_xyT:okL xyT:=by decide+kernel
theorem ok_uL:okL uL:=by decide+kernel
theorem ok_xyL:okL xyL:=by decide+kernel
theorem ok_sL:okL sL:=by decide+kernel
theorem ok_s1L:okL s1L:=by decide+kernel
theorem ok_h0L:okL h0L:=by decide+kernel
theorem ok_h1L:okL h1L:=by decide+kernel
theorem ok_uuL:okL uuL:=by decide+kernel
theorem ok_k0L:okL k0L:=by decide+kernel
theorem ok_k1L:okL k1L:=by decide+kernel
theorem tot_uT:tot uT≤1000:=by decide+kernel
theorem tot_xyT:tot xyT≤1000:=by decide+kernel
theorem tot_uL:tot uL≤1000:=by decide+kernel
theorem tot_xyL:tot xyL≤1000:=by decide+kernel
theorem tot_sL:tot sL≤1000:=by decide+kernel
theorem tot_s1L:tot s1L≤1000:=by decide+kernel
theorem tot_h0L:tot h0L≤1000:=by decide+kernel
theorem tot_h1L:tot h1L≤1000:=by decide+kernel
theorem tot_uuL:tot uuL≤1000:=by decide+kernel
theorem tot_k0L:tot k0L≤1000:=by decide+kernel
theorem tot_k1L:tot k1L≤1000:=by decide+kernel
theorem deg_sL:degL (gat sL)≤8:=by decide+kernel
theorem deg_uuL:degL (gat uuL)≤8:=by decide+kernel
theorem deg_k0L:degL (gat k0L)≤8:=by decide+kernel
theorem deg_k1L:degL (gat k1L)≤8:=by decide+kernel
theorem deg_nil:degL (gat [])≤8:=by decide+kernel
theorem hw_r1:hw 1≤5:=by decide+kernel
theorem hw_r0:hw 0≤5:=by decide+kernel
theorem hw_r2:hw 2≤5:=by decide+kernel
theorem hw_r3:hw 3≤5:=by decide+kernel
theorem hw_r4:hw (-4)≤5:=by decide+kernel
theorem same_1:gat sL=gat (constT (-4)):=by decide+kernel
theorem same_2:gat s1L=gat (addL sL uL):=by decide+kernel
theorem same_3:gat h0L=gat (addL (scaleL 2 yL) xL):=by decide+kernel
theorem same_4:gat h1L=gat (addL yL (scaleL 3 xL)):=by decide+kernel
def cL:List T:=constT (-4)
def y2L:List T:=scaleL 2 yL
def x3L:List T:=scaleL 3 xL
def a1L:List T:=addL sL uL
def a2L:List T:=addL y2L xL
def a3L:List T:=addL yL x3L
theorem ok_xL:okL xL:=by decide+kernel
theorem ok_yL:okL yL:=by decide+kernel
theorem ok_cL:okL cL:=by decide+kernel
theorem ok_y2L:okL y2L:=by decide+kernel
theorem ok_x3L:okL x3L:=by decide+kernel
theorem ok_a1L:okL a1L:=by decide+kernel
theorem ok_a2L:okL a2L:=by decide+kernel
theorem ok_a3L:okL a3L:=by decide+kernel
theorem tot_xL:tot xL≤1000:=by decide+kernel
theorem tot_yL:tot yL≤1000:=by decide+kernel
theorem tot_cL:tot cL≤1000:=by decide+kernel
theorem tot_y2L:tot y2L≤1000:=by decide+kernel
theorem tot_x3L:tot x3L≤1000:=by decide+kernel
theorem tot_a1L:tot a1L≤1000:=by decide+kernel
theorem tot_a2L:tot a2L≤1000:=by decide+kernel
theorem tot_a3L:tot a3L≤1000:=by decide+kernel
theorem int_0:((0:Int):Rat)=0:=rfl
theorem int_1:((1:Int):Rat)=1:=rfl
theorem int_2:((2:Int):Rat)=2:=rfl
theorem int_3:((3:Int):Rat)=3:=rfl
theorem int_4:((-4:Int):Rat)= -4:=rfl
end Go.Proofs.YtmelogdhllhjiaaGreat
namespace Go.Proofs.YtmelogdhllhjiaaGreat
open Go.RowKit Gus Go.Maps
theorem cf_map_scale (k:Rat) (i j:Nat):∀l:List T,cf (l.map (T.scale k)) i j=k*cf l i j
 | []=>by simp [cf]
 | t :: r=>by
  have h:=cf_map_scale k i j r
  simp only [List.map_cons,cf,h,T.scale]
  split<;>grind
theorem cf_map_dx (i j:Nat):∀l:List T,cf (l.map T.dx) i j=((i:Nat)+1:Rat)*cf l (i+1) j
 | []=>by simp [cf]
 | t :: r=>by
  have h:=cf_map_dx i j r
  simp only [List.map_cons,cf,h,T.dx]
  by_cases h1:t.i=i+1
  ·have e:((t.i:Int):Rat)=(i:Nat)+1:=by rw [h1];push_cast;rfl
   rw [e]
   simp only [h1,Nat.add_sub_cancel,true_and]
   split<;>grind
  ·by_cases h0:t.i=0
   ·have e:((t.i:Int):Rat)=0:=by rw [h0];rfl
    have h3:¬(t.i=i+1∧t.j=j):=fun h=>h1 h.1
    rw [e,if_neg h3]
    split<;>grind
   ·have h3:¬(t.i=i+1∧t.j=j):=fun h=>h1 h.1
    have h4:¬(t.i - 1=i∧t.j=j):=fun h=>h1 (by omega)
    rw [if_neg h3,if_neg h4]
    grind
theorem cf_map_dy (i j:Nat):∀l:List T,cf (l.map T.dy) i j=((j:Nat)+1:Rat)*cf l i (j+1)
 | []=>by simp [cf]
 | t :: r=>by
  have h:=cf_map_dy i j r
  simp only [List.map_cons,cf,h,T.dy]
  by_cases h1:t.j=j+1
  ·have e:((t.j:Int):Rat)=(j:Nat)+1:=by rw [h1];push_cast;rfl
   rw [e]
   simp only [h1,Nat.add_sub_cancel,and_true]
   split<;>grind
  ·by_cases h0:t.j=0
   ·have e:((t.j:Int):Rat)=0:=by rw [h0];rfl
    have h3:¬(t.i=i∧t.j=j+1):=fun h=>h1 h.2
    rw [e,if_neg h3]
    split<;>grind
   ·have h3:¬(t.i=i∧t.j=j+1):=fun h=>h1 h.2
    have h4:¬(t.i=i∧t.j - 1=j):=fun h=>h1 (by omega)
    rw [if_neg h3,if_neg h4]
    grind
theorem cf_scaleL (k:Rat) (l:List T) (i j:Nat):cf (scaleL k l) i j=k*cf l i j:=by unfold scaleL;rw [cf_gat,cf_map_scale,cf_gat]
theorem cf_dxL (l:List T) (i j:Nat):cf (dxL l) i j=((i:Nat)+1:Rat)*cf l (i+1) j:=by unfold dxL;rw [cf_gat,cf_map_dx,cf_gat]
theorem cf_dyL (l:List T) (i j:Nat):cf (dyL l) i j=((j:Nat)+1:Rat)*cf l i (j+1):=by unfold dyL;rw [cf_gat,cf_map_dy,cf_gat]
theorem cf_addL (l m:List T) (i j:Nat):cf (addL l m) i j=cf l i j+cf m i j:=by unfold addL;rw [cf_gat,cf_append,cf_gat,cf_gat]
theorem cf_subL (l m:List T) (i j:Nat):cf (subL l m) i j=cf l i j - cf m i j:=by
 unfold subL negL
 rw [cf_addL,cf_gat,cf_map_scale,cf_gat]
 have:(((-1:Int)):Rat)= -1:=rfl
 rw [this];grind
theorem cf_flow1 (a b:Rat) (l:List T) (i j:Nat):cf (flow1 a b l) i j=a*(((i:Nat)+1:Rat)*cf l (i+1) j)+b*(((j:Nat)+1:Rat)*cf l i (j+1)):=by
 unfold flow1;rw [cf_addL,cf_scaleL,cf_scaleL,cf_dxL,cf_dyL]
theorem cf_sourceL (a b c q:Rat) (l:List T) (i j:Nat):cf (sourceL a b c q l) i j=q*cf l i j - (((i:Nat)+1:Rat)*cf (flow1 a b l) (i+1) j+((j:Nat)+1:Rat)*cf (flow1 b c l) i (j+1)):=by
 unfold sourceL;rw [cf_subL,cf_scaleL,cf_addL,cf_dxL,cf_dyL]
theorem ok_negL {l:List T} (h:∀t∈l,t.ok):∀t∈negL l,t.ok:=(nf_gat (ok_scale h)).ok
theorem ok_sourceL {a b c q:Rat} {l:List T} (h:∀t∈l,t.ok):∀t∈sourceL a b c q l,t.ok:=
 ok_addL (ok_scaleL h) (ok_negL (ok_addL (ok_dxL (ok_flow1 h)) (ok_dyL (ok_flow1 h))))
theorem lin_source (a b c q n:Rat) {u z:List T} (hu:∀t∈u,t.ok) (hz:∀t∈z,t.ok):gat (sourceL a b c q (addL u (scaleL n z)))=gat (addL (sourceL a b c q u) (scaleL n (sourceL a b c q z))):=by
 refine gat_congr (ok_sourceL (ok_addL hu (ok_scaleL hz))) (ok_addL (ok_sourceL hu) (ok_scaleL (ok_sourceL hz))) fun i j=>?_
 simp only [cf_sourceL,cf_flow1,cf_addL,cf_scaleL]
 grind
theorem lin_flow (a b:Rat) {u v:List T} (hu:∀t∈u,t.ok) (hv:∀t∈v,t.ok):gat (flow1 a b (addL u v))=gat (addL (flow1 a b u) (flow1 a b v)):=by
 refine gat_congr (ok_flow1 (ok_addL hu hv)) (ok_addL (ok_flow1 hu) (ok_flow1 hv)) fun i j=>?_
 simp only [cf_flow1,cf_addL]
 grind
theorem ok_constT (n:Rat):∀t∈constT n,t.ok:=by
 unfold constT
 split
 ·simp
 ·intro t ht
  simp at ht
  subst ht
  exact Nat.zero_le _
theorem cf_constT (n:Rat) {i j:Nat} (h:¬(i=0∧j=0)):cf (constT n) i j=0:=cf_below (by
 unfold constT
 split
 ·simp
 ·intro t ht
  simp at ht
  subst ht
  exact fun e=>h ⟨e.1.symm,e.2.symm⟩)
theorem lin_flat (a b n:Rat):degL (gat (flow1 a b (constT n)))= -1:=by
 have h:gat (flow1 a b (constT n))=gat []:=gat_congr (ok_flow1 (ok_constT n)) (by simp) fun i j=>by
  rw [cf_flow1,cf_constT n (by omega),cf_constT n (by omega)]
  simp [cf,Rat.add_zero]
 rw [h];rfl
theorem ok_xL':∀t∈xL,t.ok:=by decide+kernel
theorem ok_yL':∀t∈yL,t.ok:=by decide+kernel
theorem cf_plane (n q:Rat) {i j:Nat} (h:2≤i+j):cf (addL (scaleL n xL) (scaleL q yL)) i j=0:=by
 have h1:cf xL i j=0:=cf_below (by intro t ht;simp [xL]at ht;subst ht;exact fun e=>by simp at e;omega)
 have h2:cf yL i j=0:=cf_below (by intro t ht;simp [yL]at ht;subst ht;exact fun e=>by simp at e;omega)
 rw [cf_addL,cf_scaleL,cf_scaleL,h1,h2]
 simp [Rat.add_zero]
theorem lin_plane (a b c n q:Rat):degL (gat (sourceL a b c 0 (addL (scaleL n xL) (scaleL q yL))))= -1:=by
 have h:gat (sourceL a b c 0 (addL (scaleL n xL) (scaleL q yL)))=gat []:=gat_congr (ok_sourceL (ok_addL (ok_scaleL ok_xL') (ok_scaleL ok_yL'))) (by simp) fun i j=>by
  rw [cf_sourceL,cf_flow1,cf_flow1,cf_plane n q (show 2≤i+1+1+j by omega),cf_plane n q (show 2≤i+1+(j+1) by omega),cf_plane n q (show 2≤i+(j+1+1) by omega)]
  simp [cf]
  grind
 rw [h];rfl
theorem tot_subL (l m:List T):tot (subL l m)≤tot l+tot m*3:=by
 unfold subL
 have h1:=tot_addL l (negL m)
 have h2:=tot_negL m
 omega
theorem tot_sourceL {a b c q:Rat} {l:List T} (h:∀t∈l,t.ok):tot (sourceL a b c q l)≤tot l*(72*(hw a+hw b+hw c+hw q+4)):=by
 have f1:=tot_flow1 (a:=a) (b:=b) h
 have f2:=tot_flow1 (a:=b) (b:=c) h
 have o1:=ok_flow1 (a:=a) (b:=b) h
 have o2:=ok_flow1 (a:=b) (b:=c) h
 have d1:=tot_dxL o1;have d2:=tot_dyL o2
 have s1:=tot_scaleL q l
 have t1:=tot_addL (dxL (flow1 a b l)) (dyL (flow1 b c l))
 have t2:=tot_subL (scaleL q l) (addL (dxL (flow1 a b l)) (dyL (flow1 b c l)))
 have e:tot l*(72*(hw a+hw b+hw c+hw q+4))=tot l*(hw q+1)+tot l*(3*(hw a+hw b+2))*9+tot l*(3*(hw b+hw c+2))*9+tot l*(45*hw a+18*hw b+45*hw c+71*hw q+179):=by
  rw [Nat.mul_assoc (tot l) (3*(hw a+hw b+2)),Nat.mul_assoc (tot l) (3*(hw b+hw c+2)),←Nat.mul_add,←Nat.mul_add,←Nat.mul_add]
  generalize hw a=A,hw b=B,hw c=C,hw q=D
  exact congrArg (tot l* ·) (by omega)
 unfold sourceL
 generalize tot l*(45*hw a+18*hw b+45*hw c+71*hw q+179)=z at *
 generalize tot l*(72*(hw a+hw b+hw c+hw q+4))=y at *
 generalize tot l*(hw q+1)=x1 at *
 generalize tot l*(3*(hw a+hw b+2))=x2 at *
 generalize tot l*(3*(hw b+hw c+2))=x3 at *
 omega
end Go.Proofs.YtmelogdhllhjiaaGreat
