/-
  Part 23 of the proof: GridA GridB ChkR Cells Moved.
-/
import Derived.Test.YtfgmdhjmgdccdaaGreatJ12
import Derived.Test.YtfgmdhjmgdccdaaGreatJ22
import Derived.Test.YtfgmdhjmgdccdaaGreatJ17
import Derived.Test.YtfgmdhjmgdccdaaGreatJ20
set_option linter.unusedSimpArgs false
set_option linter.unusedVariables false
set_option maxHeartbeats 8000000
namespace Go.Proofs.YtfgmdhjmgdccdaaGreat
abbrev P2:=Nat×Nat
abbrev T2:=P2×P2×P2
def cross2 (a b c:P2):Int:=((b.1:Int) - a.1)*((c.2:Int) - a.2) - ((b.2:Int) - a.2)*((c.1:Int) - a.1)
def cellK (k x y:Nat):List T2:=
 match k with
 | 0=> [((x,y),(x+2,y),(x+2,y+2)),((x,y),(x+2,y+2),(x,y+2))]
 | 1=> [((x,y),(x+2,y),(x,y+2)),((x+2,y),(x+2,y+2),(x,y+2))]
 | 2=> [((x,y),(x+2,y),(x+1,y+1)),((x+2,y),(x+2,y+2),(x+1,y+1)),((x+2,y+2),(x,y+2),(x+1,y+1)),((x,y+2),(x,y),(x+1,y+1))]
 | _=> []
def hasP (t:T2) (q:P2):Bool:=t.1 == q || t.2.1 == q || t.2.2 == q
def rightB (p q:P2) (u:T2):Bool:=decide (cross2 p q u.1≤0) && decide (cross2 p q u.2.1≤0) && decide (cross2 p q u.2.2≤0)
def beyB (t u:T2):Bool:=rightB t.1 t.2.1 u || rightB t.2.1 t.2.2 u || rightB t.2.2 t.1 u
def outB (t:T2) (q:P2):Bool:=decide (cross2 t.1 t.2.1 q<0) || decide (cross2 t.2.1 t.2.2 q<0) || decide (cross2 t.2.2 t.1 q<0)
def outT (t u:T2):Bool:=(hasP t u.1 || outB t u.1) && (hasP t u.2.1 || outB t u.2.1) && (hasP t u.2.2 || outB t u.2.2)
def posB (t:T2):Bool:=decide (0<cross2 t.1 t.2.1 t.2.2)
def okB (t u:T2):Bool:=beyB t u && beyB u t && outT t u && outT u t
def pairB (l m:List T2):Bool:=l.all fun t=>m.all fun u=>okB t u
theorem kinds_apart:((List.range 9).all fun a=>(List.range 9).all fun b=>(a == b) || (List.range 3).all fun k=>(List.range 3).all fun j=>pairB (cellK k (2*(a % 3)) (2*(a / 3))) (cellK j (2*(b % 3)) (2*(b / 3))))=true:=by decide+kernel
def selfB:List T2→Bool
 | []=>true
 | t :: l=>l.all (fun u=>okB t u) && selfB l
theorem kinds_self:((List.range 9).all fun a=>(List.range 3).all fun k=>selfB (cellK k (2*(a % 3)) (2*(a / 3))) && (cellK k (2*(a % 3)) (2*(a / 3))).all posB)=true:=by decide+kernel
def kindW (way i:Nat):Nat:=if way<3∨way=7∧i=0 then 0 else if way<5 then 1 else if way<7 then 2 else 3
def cellsL (nx ny:Nat) (way:Nat→Nat):List T2:=(List.range (nx*ny)).flatMap fun i=>cellK (kindW (way i) i) (2*(i % nx)) (2*(i / nx))
theorem cellK_big {k x y:Nat} (h:¬k<3):cellK k x y= []:=by
 match k,h with
 | 0,h|1,h|2,h=>omega
 | k+3,_=>rfl
theorem cell_at {nx ny i:Nat} (hx:nx≤3) (hy:ny≤3) (hi:i<nx*ny):i % nx<3∧i / nx<3:=by
 have h0:0<nx:=by rcases Nat.eq_zero_or_pos nx with h|h;· subst h;simp at hi
                  ·exact h
 refine⟨Nat.lt_of_lt_of_le (Nat.mod_lt _ h0) hx,?_⟩
 have:=(Nat.div_lt_iff_lt_mul h0).2 (by rw [Nat.mul_comm];exact hi)
 omega
theorem selfB_pair {l:List T2} (h:selfB l=true):l.Pairwise fun t u=>okB t u=true:=by
 induction l with
 | nil=>exact .nil
 | cons t l ih=>
  simp only [selfB,Bool.and_eq_true,List.all_eq_true]at h
  exact .cons h.1 (ih h.2)
theorem kinds_self' {k x y:Nat} (hx:x<3) (hy:y<3):((cellK k (2*x) (2*y)).Pairwise fun t u=>okB t u=true)∧∀t∈cellK k (2*x) (2*y),posB t=true:=by
 by_cases hk:k<3
 ·have h:=kinds_self
  rw [List.all_eq_true]at h
  have h:=h (x+3*y) (List.mem_range.2 (by omega))
  rw [List.all_eq_true]at h
  have h:=h k (List.mem_range.2 hk)
  rw [show(x+3*y) % 3=x by omega,show(x+3*y) / 3=y by omega,Bool.and_eq_true,List.all_eq_true]at h
  exact⟨selfB_pair h.1,h.2⟩
 ·rw [cellK_big hk]
  exact⟨.nil,by simp⟩
theorem kinds_apart' {k j x y x' y':Nat} (hx:x<3) (hy:y<3) (hx':x'<3) (hy':y'<3) (hne:¬(x=x'∧y=y')):∀t∈cellK k (2*x) (2*y),∀u∈cellK j (2*x') (2*y'),okB t u=true:=by
 by_cases hk:k<3
 ·by_cases hj:j<3
  ·have h:=kinds_apart
   rw [List.all_eq_true]at h
   have h:=h (x+3*y) (List.mem_range.2 (by omega))
   rw [List.all_eq_true]at h
   have h:=h (x'+3*y') (List.mem_range.2 (by omega))
   rw [Bool.or_eq_true]at h
   rcases h with h|h
   ·have h:=eq_of_beq h;omega
   ·rw [List.all_eq_true]at h
    have h:=h k (List.mem_range.2 hk)
    rw [List.all_eq_true]at h
    have h:=h j (List.mem_range.2 hj)
    rw [show(x+3*y) % 3=x by omega,show(x+3*y) / 3=y by omega,show(x'+3*y') % 3=x' by omega,show(x'+3*y') / 3=y' by omega]at h
    unfold pairB at h
    intro t ht u hu
    exact List.all_eq_true.1 (List.all_eq_true.1 h t ht) u hu
  ·rw [cellK_big (k:=j) hj];simp
 ·rw [cellK_big hk];simp
theorem cells_pair {nx ny:Nat} (way:Nat→Nat) (hx:nx≤3) (hy:ny≤3):(cellsL nx ny way).Pairwise fun t u=>okB t u=true:=by
 unfold cellsL
 rw [List.pairwise_flatMap]
 constructor
 ·intro i hi
  obtain ⟨h1,h2⟩:=cell_at hx hy (List.mem_range.1 hi)
  exact(kinds_self' h1 h2).1
 ·refine List.Pairwise.imp_of_mem ?_ List.pairwise_lt_range
  intro i j hi hj hlt
  obtain ⟨h1,h2⟩:=cell_at hx hy (List.mem_range.1 hi)
  obtain ⟨h3,h4⟩:=cell_at hx hy (List.mem_range.1 hj)
  refine kinds_apart' h1 h2 h3 h4 ?_
  intro ⟨e1,e2⟩
  have a:=Nat.div_add_mod i nx
  have b:=Nat.div_add_mod j nx
  rw [e1,e2]at a
  omega
theorem cells_pos {nx ny:Nat} (way:Nat→Nat) (hx:nx≤3) (hy:ny≤3):∀t∈cellsL nx ny way,posB t=true:=by
 intro t ht
 unfold cellsL at ht
 rw [List.mem_flatMap]at ht
 obtain ⟨i,hi,ht⟩:=ht
 obtain ⟨h1,h2⟩:=cell_at hx hy (List.mem_range.1 hi)
 exact(kinds_self' h1 h2).2 t ht
def rotT (t:T2) (j:Nat):T2:=match j % 3 with|0=>t|1=>(t.2.1,t.2.2,t.1)|_=>(t.2.2,t.1,t.2.1)
def corner (t:T2) (j:Nat):P2:=match j % 3 with|0=>t.1|1=>t.2.1|_=>t.2.2
theorem cross2_turn (a b c:P2):cross2 b c a=cross2 a b c:=by unfold cross2;grind
theorem rot_cases (t:T2) (j:Nat):rotT t j=t∨rotT t j=(t.2.1,t.2.2,t.1)∨rotT t j=(t.2.2,t.1,t.2.1):=by
 unfold rotT;split<;>simp
theorem hasP_rot (t:T2) (j:Nat) (q:P2):hasP (rotT t j) q=hasP t q:=by
 unfold hasP
 rcases rot_cases t j with h|h|h<;>rw [h]<;>simp<;>grind
theorem rightB_rot (p q:P2) (t:T2) (j:Nat):rightB p q (rotT t j)=rightB p q t:=by
 unfold rightB
 rcases rot_cases t j with h|h|h<;>rw [h]<;>simp<;>grind
theorem beyB_rot (t u:T2) (i j:Nat):beyB (rotT t i) (rotT u j)=beyB t u:=by
 unfold beyB
 simp only [rightB_rot]
 rcases rot_cases t i with h|h|h<;>rw [h]<;>simp<;>grind
theorem outB_rot (t:T2) (j:Nat) (q:P2):outB (rotT t j) q=outB t q:=by
 unfold outB
 rcases rot_cases t j with h|h|h<;>rw [h]<;>simp<;>grind
theorem outT_rot (t u:T2) (i j:Nat):outT (rotT t i) (rotT u j)=outT t u:=by
 unfold outT
 simp only [hasP_rot,outB_rot]
 rcases rot_cases u j with h|h|h<;>rw [h]<;>simp<;>grind
theorem okB_rot (t u:T2) (i j:Nat):okB (rotT t i) (rotT u j)=okB t u:=by
 unfold okB
 rw [beyB_rot,beyB_rot,outT_rot,outT_rot]
theorem posB_rot (t:T2) (j:Nat):posB (rotT t j)=posB t:=by
 unfold posB
 rcases rot_cases t j with h|h|h<;>rw [h]<;>simp [cross2_turn]
def turned (r:Nat→Nat) (l:List T2):List T2:=l.mapIdx fun t u=>rotT u (r t)
theorem turned_pair {r:Nat→Nat} {l:List T2} (h:l.Pairwise fun t u=>okB t u=true):(turned r l).Pairwise fun t u=>okB t u=true:=by
 unfold turned
 rw [List.pairwise_iff_getElem]at h ⊢
 intro i j hi hj hij
 simp only [List.getElem_mapIdx,okB_rot]
 exact h i j (by simpa using hi) (by simpa using hj) hij
theorem turned_all {r:Nat→Nat} {l:List T2} {p:T2→Prop} (hp:∀t j,p t→p (rotT t j)) (h:∀t∈l,p t):∀t∈turned r l,p t:=by
 intro t ht
 unfold turned at ht
 rw [List.mem_mapIdx]at ht
 obtain ⟨i,hi,rfl⟩:=ht
 exact hp _ _ (h _ (List.getElem_mem hi))
def addp (pl:List P2) (p:P2):List P2:=if p∈pl then pl else pl++ [p]
def placesOf (cs:List P2):List P2:=cs.foldl addp []
def cornersOf (l:List T2):List P2:=l.flatMap fun t=> [t.1,t.2.1,t.2.2]
theorem addp_mem (pl:List P2) (p q:P2):q∈addp pl p↔q∈pl∨q=p:=by
 unfold addp;split
 ·constructor
  ·exact .inl
  ·rintro (h|rfl)<;>assumption
 ·simp
theorem addp_nodup {pl:List P2} (p:P2) (h:pl.Nodup):(addp pl p).Nodup:=by
 unfold addp;split
 ·exact h
 ·rename_i hn
  rw [List.nodup_append]
  exact⟨h,by simp,by intro a ha b hb e;simp at hb;exact hn (hb ▸ e ▸ ha)⟩
theorem addp_pre (pl:List P2) (p:P2):pl <+:addp pl p:=by
 unfold addp;split
 ·exact List.prefix_refl _
 ·exact List.prefix_append _ _
theorem fold_mem (cs pl:List P2) (q:P2):q∈cs.foldl addp pl↔q∈pl∨q∈cs:=by
 induction cs generalizing pl with
 | nil=>simp
 | cons c cs ih=>rw [List.foldl_cons,ih,addp_mem];simp [or_assoc]
theorem fold_nodup (cs pl:List P2) (h:pl.Nodup):(cs.foldl addp pl).Nodup:=by
 induction cs generalizing pl with
 | nil=>exact h
 | cons c cs ih=>exact ih _ (addp_nodup c h)
theorem fold_pre (cs pl:List P2):pl <+:cs.foldl addp pl:=by
 induction cs generalizing pl with
 | nil=>exact List.prefix_refl _
 | cons c cs ih=>exact(addp_pre pl c).trans (ih _)
theorem places_mem (cs:List P2) (q:P2):q∈placesOf cs↔q∈cs:=by unfold placesOf;rw [fold_mem];simp
theorem places_nodup (cs:List P2):(placesOf cs).Nodup:=fold_nodup cs [] .nil
theorem places_take (cs:List P2) (n:Nat):placesOf (cs.take n) <+:placesOf cs:=by
 unfold placesOf
 have h:cs.foldl addp []=(cs.drop n).foldl addp ((cs.take n).foldl addp []):=by rw [←List.foldl_append,List.take_append_drop]
 rw [h]
 exact fold_pre _ _
theorem places_succ {cs:List P2} {n:Nat} {p:P2} (h:cs[n]? =some p):placesOf (cs.take (n+1))=addp (placesOf (cs.take n)) p:=by
 unfold placesOf
 rw [List.take_add_one,h,List.foldl_append]
 rfl
theorem idxOf_pre {l m:List P2} {p:P2} (h:l <+:m) (hp:p∈l):m.idxOf p=l.idxOf p:=by
 obtain ⟨k,rfl⟩:=h
 rw [List.idxOf_append,if_pos hp]
theorem idxOf_addp (pl:List P2) (p:P2):(addp pl p).idxOf p=pl.idxOf p:=by
 unfold addp;split
 ·rfl
 ·rename_i hn
  rw [List.idxOf_append,if_neg hn,List.idxOf_eq_length hn]
  simp
end Go.Proofs.YtfgmdhjmgdccdaaGreat
namespace Go.Proofs.YtfgmdhjmgdccdaaGreat
open Go.RowKit Gus
abbrev K4:=Int×Int×Int×Int
def det4 (k:K4):Int:=k.1*k.2.2.2 - k.2.1*k.2.2.1
def ptM (k:K4) (d:Nat) (p:P2):Pt:=⟨qQ (k.1*p.1+k.2.1*p.2) d,qQ (k.2.2.1*p.1+k.2.2.2*p.2) d⟩
theorem qQ_e (n:Int) {d:Nat} (h:0<d):qQ n d=(n:Rat)*((d:Int):Rat)⁻¹:=by
 unfold qQ
 rw [if_neg (by omega),Rat.div_def]
theorem den_pos {d:Nat} (h:0<d):0<((d:Int):Rat)⁻¹:=by
 rw [Rat.inv_pos]
 exact Rat.intCast_pos.2 (by omega)
theorem twice_pt (k:K4) {d:Nat} (h:0<d) (p q r:P2):twice (ptM k d p) (ptM k d q) (ptM k d r)=((det4 k*cross2 p q r:Int):Rat)*(((d:Int):Rat)⁻¹*((d:Int):Rat)⁻¹):=by
 unfold twice Pt.cross Pt.sub ptM det4 cross2
 simp only [qQ_e _ h]
 simp only [Rat.intCast_mul,Rat.intCast_sub,Rat.intCast_add]
 grind
theorem sgn_num (x:Rat):sgnI x.num=if x<0 then -1 else if x=0 then 0 else 1:=by
 unfold sgnI
 have h1:x.num<0↔x<0:=by
  rw [←Int.not_le,Rat.num_nonneg,Rat.not_le]
 have h2:x.num=0↔x=0:=Rat.num_eq_zero
 simp only [h1,h2]
theorem sgn_scale {m:Int} {e:Rat} (he:0<e):sgnI (((m:Int):Rat)*(e*e)).num=sgnI m:=by
 rw [sgn_num]
 have h1:0<e*e:=Rat.mul_pos he he
 unfold sgnI
 by_cases h2:m<0
 ·rw [if_pos,if_pos h2]
  have h3:((m:Int):Rat)<0:=Rat.intCast_neg_iff.2 h2
  have h4:=Rat.mul_pos (show 0< -((m:Int):Rat) by grind) h1
  grind
 ·rw [if_neg h2]
  by_cases h3:m=0
  ·subst h3
   simp
  ·have h4:0<((m:Int):Rat):=Rat.intCast_pos.2 (by omega)
   have h5:=Rat.mul_pos h4 h1
   rw [if_neg h3,if_neg (by grind),if_neg (by grind)]
theorem sgn_mul_pos {a b:Int} (ha:0<a):sgnI (a*b)=sgnI b:=by
 unfold sgnI
 by_cases h:b<0
 ·rw [if_pos h,if_pos (Int.mul_neg_of_pos_of_neg ha h)]
 ·rw [if_neg h]
  by_cases h0:b=0
  ·subst h0;simp
  ·have:0<a*b:=Int.mul_pos ha (by omega)
   rw [if_neg h0,if_neg (by omega),if_neg (by omega)]
theorem turn_pt {k:K4} {d:Nat} (hk:0<det4 k) (h:0<d) (p q r:P2):turn (ptM k d p) (ptM k d q) (ptM k d r)=sgnI (cross2 p q r):=by
 unfold turn
 rw [twice_pt k h,sgn_scale (den_pos h),sgn_mul_pos hk]
theorem twice_sgn {k:K4} {d:Nat} (hk:0<det4 k) (h:0<d) (p q r:P2):sgnI (twice (ptM k d p) (ptM k d q) (ptM k d r)).num=sgnI (cross2 p q r):=turn_pt hk h p q r
theorem sgn_div {x y:Rat} (hy:0<y):sgnI (x / y).num=sgnI x.num:=by
 rw [sgn_num,sgn_num]
 have h1:x / y<0↔x<0:=by rw [Rat.div_lt_iff hy,Rat.zero_mul]
 have h2:x / y=0↔x=0:=by
  rw [Rat.div_def]
  constructor
  ·intro h3
   rcases Rat.mul_eq_zero.1 h3 with h4|h4
   ·exact h4
   ·have:=Rat.inv_pos.2 hy;rw [h4]at this;exact absurd this (Rat.lt_irrefl)
  ·intro h3;rw [h3,Rat.zero_mul]
 simp only [h1,h2]
theorem sgn_one {n:Int}:sgnI n=1↔0<n:=by unfold sgnI;split<;>(try split)<;>omega
theorem sgn_pos {n:Int}:0<sgnI n↔0<n:=by unfold sgnI;split<;>(try split)<;>omega
theorem sgn_m1 {n:Int}:sgnI n= -1↔n<0:=by unfold sgnI;split<;>(try split)<;>omega
theorem where_out {k:K4} {d:Nat} (hk:0<det4 k) (h:0<d) {t:T2} {q:P2} (hp:posB t=true) (ho:outB t q=true):whereS (barS (ptM k d t.1) (ptM k d t.2.1) (ptM k d t.2.2) (ptM k d q))=0:=by
 unfold posB at hp
 rw [decide_eq_true_eq]at hp
 have hy:0<twice (ptM k d t.1) (ptM k d t.2.1) (ptM k d t.2.2):=by
  rw [←Rat.not_le]
  intro hle
  have h1:=twice_sgn hk h t.1 t.2.1 t.2.2
  rw [sgn_one.2 hp,sgn_num]at h1
  by_cases h2:twice (ptM k d t.1) (ptM k d t.2.1) (ptM k d t.2.2)<0
  ·rw [if_pos h2]at h1;omega
  ·rw [if_neg h2,if_pos (by grind)]at h1;omega
 unfold whereS
 rw [if_pos]
 simp only [barS,sgn_div hy,twice_sgn hk h,sgn_m1]
 unfold outB at ho
 simp only [Bool.or_eq_true,decide_eq_true_eq]at ho
 have e1:cross2 q t.2.1 t.2.2=cross2 t.2.1 t.2.2 q:=(cross2_turn q t.2.1 t.2.2).symm
 have e2:cross2 t.1 q t.2.2=cross2 t.2.2 t.1 q:=(cross2_turn t.2.2 t.1 q)
 rw [e1,e2]
 rcases ho with(h1|h1)|h1
 ·exact .inr (.inr h1)
 ·exact .inl h1
 ·exact .inr (.inl h1)
end Go.Proofs.YtfgmdhjmgdccdaaGreat
namespace Go.Proofs.YtfgmdhjmgdccdaaGreat
open Go.RowKit Gus Go.Maps
set_option maxRecDepth 20000 in
theorem msCheck_raw (m:Msh) (vp vt vs:Value) (w:World) (hM:MS w 0 vp vt vs m) (hp:m.pts.length≤4096) (ht:m.tris.length≤8192) (hs:m.sides.length≤24576)
  (h1:∀W,MS W 0 vp vt vs m→Calls Tryz.prog 97 #[.agg #[vp,vt,vs]] W (Ret W (.bool true))) (h2:∀W,MS W 0 vp vt vs m→Calls Tryz.prog 98 #[.agg #[vp,vt,vs]] W (Ret W (.bool true)))
  (h3:∀W,MS W 0 vp vt vs m→Calls Tryz.prog 99 #[.agg #[vp,vt,vs]] W (Ret W (.bool true))) (h4:∀W,MS W 0 vp vt vs m→Calls Tryz.prog 100 #[.agg #[vp,vt,vs]] W (Ret W (.bool true))):
  Calls Tryz.prog 56 #[.agg #[vp,vt,vs]] w (Ret w (.int .i64 0)):=by
 have HM:=Lh hM
 have h1:=Lh h1
 have h2:=Lh h2
 have h3:=Lh h3
 have h4:=Lh h4
 obtain ⟨a0,b0,rfl⟩:=hM.1.at
 obtain ⟨a1,b1,rfl⟩:=hM.2.1.at
 obtain ⟨a2,b2,rfl⟩:=hM.2.2.at
 have q1:¬((4096:Int)<(m.pts.length:Int)):=by omega
 have q2:¬((8192:Int)<(m.tris.length:Int)):=by omega
 have q3:¬((24576:Int)<(m.sides.length:Int)):=by omega
 clear hM hp ht hs
 go_enter Tryz.func56,Tryz.ntmps56
 go_wp2_with fail
 (refine rtt (h1.out _ (HM.out.gr (by exact gzz))) fun w1 hsz1 hc1 hf1 HG1=>?_;(try simp at hsz1);have hz1_0:w.heap.size<w1.heap.size:=(by omega))
 go_wp2_with fail
 (refine rtt (h2.out _ (HM.out.gr (by exact gcc HG1 gzz))) fun w2 hsz2 hc2 hf2 HG2=>?_;(try simp at hsz2);have hz2_0:w.heap.size<w2.heap.size:=(by omega))
 go_wp2_with fail
 (refine rtt (h3.out _ (HM.out.gr (by exact gcc HG2 (gcc HG1 gzz)))) fun w3 hsz3 hc3 hf3 HG3=>?_;(try simp at hsz3);have hz3_0:w.heap.size<w3.heap.size:=(by omega))
 go_wp2_with fail
 (refine rtt (h4.out _ (HM.out.gr (by exact gcc HG3 (gcc HG2 (gcc HG1 gzz))))) fun w4 hsz4 hc4 hf4 HG4=>?_;(try simp at hsz4);have hz4_0:w.heap.size<w4.heap.size:=(by omega))
 go_wp2
 go_ret
 exact⟨rfl,by exact gcc HG4 (gcc HG3 (gcc HG2 (gcc HG1 gzz)))⟩
end Go.Proofs.YtfgmdhjmgdccdaaGreat
namespace Go.Proofs.YtfgmdhjmgdccdaaGreat
open Go.RowKit Gus Go.Maps
abbrev mC (nx ny:Nat) (cv:Value) (m0 m1 m2 m3:Int) (den fi:Nat):List Value:= [.int .u8 (nx:Int),.int .u8 (ny:Int),cv,.int .i8 m0,.int .i8 m1,.int .i8 m2,.int .i8 m3,.int .u8 (den:Int),.int .u8 (fi:Int)]
abbrev t6C (t:T2):List Value:= [.int .i64 (t.1.1:Int),.int .i64 (t.1.2:Int),.int .i64 (t.2.1.1:Int),.int .i64 (t.2.1.2:Int),.int .i64 (t.2.2.1:Int),.int .i64 (t.2.2.2:Int)]
theorem t6C_len (t:T2):(t6C t).length=6:=rfl
theorem t6C_one (t:T2):∀v∈t6C t,v.oneCell'=true:=by simp [Value.oneCell']
theorem info_bT6:(Tryz.prog.info? 175).map (fun i=>(i.zero,i.size,i.bytes))=some (some (.agg #[.int .i64 0,.int .i64 0,.int .i64 0,.int .i64 0,.int .i64 0,.int .i64 0]),6,48):=by kernel_rfl
def wayOf (bs:List Nat) (i:Nat):Nat:=if bs.length=0 then 0 else bs.getD (i % bs.length) 0 % 8
theorem way_lt (bs:List Nat) (i:Nat):wayOf bs i<8:=by unfold wayOf;split<;>omega
def cellsTo (a:Nat) (way:Nat→Nat) (i:Nat):List T2:=(List.range i).flatMap fun i=>cellK (kindW (way i) i) (2*(i % a)) (2*(i / a))
theorem cellsTo_succ (a:Nat) (way:Nat→Nat) (i:Nat):cellsTo a way (i+1)=cellsTo a way i++cellK (kindW (way i) i) (2*(i % a)) (2*(i / a)):=by
 unfold cellsTo
 rw [List.range_succ,List.flatMap_append]
 simp
theorem cellK_le (k x y:Nat):(cellK k x y).length≤4:=by unfold cellK;split<;>simp
theorem cellsTo_len (a:Nat) (way:Nat→Nat) (i:Nat):(cellsTo a way i).length≤4*i:=by
 induction i with
 | zero=>simp [cellsTo]
 | succ i ih=>rw [cellsTo_succ,List.length_append];have:=cellK_le (kindW (way i) i) (2*(i % a)) (2*(i / a));omega
theorem RC.more {α:Type} {enc:α→List Value} {k g:Nat} {t:TypeId} {w:World} {l:List α} {cs:List Value} (hk:∀x,(enc x).length=k) (hg:g=w.heap.size) (h:l.flatMap enc=cs):RC enc k (w.alloc (.cells cs.toArray t)) g l:=
 RC.of_flat hk fun i u hu=>(VB.new' (t:=t) hg).c i u (by rw [←h];exact hu)
def BS (w:World) (v:Value) (l:List Nat):Prop:=l.length≤maxLen∧((∃a cap,v= .slice a 0 cap∧l= [])∨∃g o cap,v= .slice (some ⟨g,o,none⟩) l.length cap∧g<w.heap.size∧∀j (hj:j<l.length),w.cell? ⟨g,o+j,none⟩=some (.int .u8 (l[j]:Int)))
theorem BS.at {w:World} {v:Value} {l:List Nat} (h:BS w v l):∃a cap,v= .slice a l.length cap:=by
 rcases h with⟨_,⟨a,c,h,rfl⟩|⟨g,o,c,h,_⟩⟩
 ·exact⟨a,c,h⟩
 ·exact⟨_,c,h⟩
theorem BS.len {w:World} {v:Value} {l:List Nat} (h:BS w v l):l.length≤maxLen:=h.1
theorem BS.gr {w w':World} {v:Value} {l:List Nat} (h:BS w v l) (hg:Gr w.heap.size w w'):BS w' v l:=by
 rcases h with⟨h0,h|⟨g,o,c,h1,h2,h3⟩⟩
 ·exact⟨h0,.inl h⟩
 ·exact⟨h0,.inr ⟨g,o,c,h1,Nat.lt_of_lt_of_le h2 hg.size,fun j hj=>(hg.cell (p:=⟨g,o+j,none⟩) h2).trans (h3 j hj)⟩⟩
theorem BS.block {w:World} {v:Value} {l:List Nat} (h:BS w v l) (hl:l≠ []):∃g o cap,v= .slice (some ⟨g,o,none⟩) l.length cap∧g<w.heap.size∧∀j (hj:j<l.length),w.cell? ⟨g,o+j,none⟩=some (.int .u8 (l[j]:Int)):=by
 rcases h with⟨_,⟨_,_,_,h⟩|h⟩
 ·exact absurd h hl
 ·exact h
set_option maxRecDepth 20000 in
theorem ms_cells (nx ny den fi:Nat) (m0 m1 m2 m3:Int) (cw:Value) (bs:List Nat) (w:World) (h1:nx<256) (h2:ny<256) (hS:BS w cw bs) (hb:∀b∈bs,b<256):
  Calls Tryz.prog 93 #[.agg #[.int .u8 (nx:Int),.int .u8 (ny:Int),cw,.int .i8 m0,.int .i8 m1,.int .i8 m2,.int .i8 m3,.int .u8 (den:Int),.int .u8 (fi:Int)]] w (fun e w'=> ∃v',e= .returned v'∧SL t6C 6 175 w' w.heap.size v' (cellsL (1+nx % 3) (1+ny % 3) (wayOf bs))∧Gr w.heap.size w w'):=by
 obtain ⟨cv,cc,rfl⟩:=hS.at
 have HS:=Lh hS
 have HB:=Lh hb
 have l1:=hS.len
 have hl1:(bs.length:Int)≤9223372036854775807:=by simp only [maxLen]at l1;omega
 clear hS hb l1
 obtain ⟨a,ha⟩:∃a,1+nx % 3=a:=⟨_,rfl⟩
 obtain ⟨b,hb⟩:∃b,1+ny % 3=b:=⟨_,rfl⟩
 rw [ha,hb]
 have ha1:1+(nx:Int) % 3=(a:Int):=by omega
 have hb1:1+(ny:Int) % 3=(b:Int):=by omega
 have ha3:a≤3:=by omega
 have hb3:b≤3:=by omega
 have ha0:0<a:=by omega
 clear ha hb
 obtain ⟨n,hn⟩:∃n,a*b=n:=⟨_,rfl⟩
 have hn1:(a:Int)*(b:Int)=(n:Int):=by rw [←hn];simp
 have hn9:n≤9:=by rw [←hn];exact Nat.mul_le_mul ha3 hb3
 have HN:=Lh hn
 clear hn
 have hwn:IntKind.i64.wrap (n:Int)=(n:Int):=wrap64_id (by omega) (by omega)
 obtain ⟨i0,hi,hz0,hz1,hz2⟩:=info_parts info_bT6
 have HI:=Lh (And.intro hi (And.intro hz0 (And.intro hz1 hz2)))
 clear hi hz0 hz1 hz2
 go_enter Tryz.func93,Tryz.ntmps93
 go_wp2
 clear ha1 hb1
 have HV0:=Lh (VB.new w [.int .u8 (nx:Int),.int .u8 (ny:Int),.slice cv bs.length cc,.int .i8 m0,.int .i8 m1,.int .i8 m2,.int .i8 m3,.int .u8 (den:Int),.int .u8 (fi:Int)] 26)
 have HG0:=Lh (show Gr w.heap.size w (w.alloc (.cells #[.int .u8 (nx:Int),.int .u8 (ny:Int),.slice cv bs.length cc,.int .i8 m0,.int .i8 m1,.int .i8 m2,.int .i8 m3,.int .u8 (den:Int),.int .u8 (fi:Int)] 26))from by exact gzz)
 generalize w.alloc (.cells #[.int .u8 (nx:Int),.int .u8 (ny:Int),.slice cv bs.length cc,.int .i8 m0,.int .i8 m1,.int .i8 m2,.int .i8 m3,.int .u8 (den:Int),.int .u8 (fi:Int)] 26)=w0 at *
 go_loopw [5,6] (fun p s wr=> ∃i:Nat,i≤n∧s= .int .i64 i∧Hid (VB wr w.heap.size [.int .u8 (nx:Int),.int .u8 (ny:Int),.slice cv bs.length cc,.int .i8 m0,.int .i8 m1,.int .i8 m2,.int .i8 m3,.int .u8 (den:Int),.int .u8 (fi:Int)])∧Hid (SL t6C 6 175 wr (w.heap.size+1) p (cellsTo a (wayOf bs) i))∧Hid (Gr w.heap.size w wr)) (fun _ s _=>n - (intOf s).toNat)
 case atStart=>exact⟨0,Nat.zero_le _,rfl,HV0,Lh SL.nil,HG0⟩
 case round=>
  clear HV0 HG0
  obtain ⟨i,hin,rfl,HV,HP,HG⟩:=hrel
  have hszr:=HG.out.size
  have hvl:=HV.out.lt
  obtain ⟨pa,pc,rfl⟩:=HP.out.at
  have hlen:=cellsTo_len a (wayOf bs) i
  by_cases hlt:i<n
  ·have q0:(i:Int)<(n:Int):=by omega
   have c2:=HV.out.c 2 _ rfl
   go_upto_if 35 with fail
   go_cut [7] (fun s wx=>s= .int .u8 (wayOf bs i:Int)∧Gr wr.heap.size wr wx∧wx.heap.size=wr.heap.size)
   case first=>
    by_cases hbs:bs.length=0
    ·have q2:decide (0<(bs.length:Int))=false:=decide_eq_false (by omega)
     have q3:¬0<bs.length:=by omega
     go_wp2_with fail
     go_meet
     exact⟨by simp [wayOf,hbs],by exact gzz,by simp⟩
    ·have q1:decide (0<(bs.length:Int))=true:=decide_eq_true (by omega)
     have q3:0<bs.length:=by omega
     obtain ⟨r,hr⟩:∃r,i % bs.length=r:=⟨_,rfl⟩
     have hr1:r<bs.length:=by rw [←hr];exact Nat.mod_lt _ (by omega)
     have hr2:(i:Int) % (bs.length:Int)=(r:Int):=by rw [←hr];simp
     have hr3:(i:Int).tmod (bs.length:Int)=(r:Int):=by rw [Int.tmod_eq_emod_of_nonneg (by omega)];exact hr2
     obtain ⟨x,hx⟩:∃x,bs[r]=x:=⟨_,rfl⟩
     have hx1:=HB.out x (hx ▸ List.getElem_mem hr1)
     obtain ⟨g,ob,cap',e4,hglt,hR⟩:=(HS.out.gr HG.out).block (by intro e;rw [e]at q3;simp at q3)
     injection e4 with e4 _ e5
     subst e4 e5
     have u0:=hR r hr1
     rw [hx]at u0
     have hway:wayOf bs i=x % 8:=by unfold wayOf;rw [if_neg hbs,hr,List.getD_eq_getElem?_getD,List.getElem?_eq_getElem hr1,hx];rfl
     clear hR hr
     obtain ⟨x8,hx8⟩:∃q,x % 8=q:=⟨_,rfl⟩
     rw [hx8]at hway
     have hw8:(x:Int) % 8=(x8:Int):=by omega
     have hw9:(x:Int).tmod 8=(x8:Int):=by rw [Int.tmod_eq_emod_of_nonneg (by omega)];exact hw8
     clear hx8
     go_upto_region 9 with fail
     refine wp_region_held_drew (S:=(fun w'=>w'.cell? ⟨w.heap.size,2,none⟩=some (.slice (some ⟨g,ob,none⟩) bs.length cc)∧w'.cell? ⟨g,ob+r,none⟩=some (.int .u8 (x:Int)))) (by kernel_rfl) ?_ (fun hHeld=>?_)
     ·simp [go_sem, *]
     refine tq 0 36 (.pointer (some ⟨w.heap.size,2,none⟩)) ?_
     refine tq 1 37 (.slice (some ⟨g,ob,none⟩) bs.length cc) ?_
     refine tq 2 38 (.int .i64 (i:Int)) ?_
     refine tq 3 39 (.pointer (some ⟨w.heap.size,2,none⟩)) ?_
     refine tq 4 40 (.slice (some ⟨g,ob,none⟩) bs.length cc) ?_
     refine tq 5 41 (.int .i64 (bs.length:Int)) ?_
     refine tq 6 42 (.int .i64 (r:Int)) ?_
     refine tq 7 43 (.pointer (some ⟨g,ob+r,none⟩)) ?_
     refine tq 8 44 (.int .u8 (x:Int)) ?_
     refine tq 9 45 (.int .u8 (x8:Int)) ?_
     refine tq 10 7 (.int .u8 (x8:Int)) ?_
     refine wpAnyH_done (by kernel_rfl) ?_ _
     go_wp2_with fail
     go_meet
     exact⟨by rw [hway],by exact gzz,by simp⟩
   case rest=>
    obtain ⟨wb,hwb⟩:∃x,x=wc:=⟨_,rfl⟩
    subst hwb
    obtain ⟨rfl,hgb,hszb⟩:=hcut
    replace HP:=Lh (HP.out.gr hgb)
    replace HV:=Lh (HV.out.gr hgb hvl)
    replace HG:=Lh (HG.out.trans (hgb.mono hszr))
    replace hszr:w.heap.size≤wb.heap.size:=by omega
    replace hvl:w.heap.size<wb.heap.size:=by omega
    clear hgb hszb c2
    obtain ⟨wy,hwy⟩:∃q,wayOf bs i=q:=⟨_,rfl⟩
    have hw8:wy<8:=hwy ▸ way_lt bs i
    have hsucc:=cellsTo_succ a (wayOf bs) i
    rw [hwy]at hsucc
    obtain ⟨x,hx⟩:∃q,2*(i % a)=q:=⟨_,rfl⟩
    obtain ⟨y,hy⟩:∃q,2*(i / a)=q:=⟨_,rfl⟩
    rw [hx,hy]at hsucc
    have hx1:2*((i:Int) % (a:Int))=(x:Int):=by rw [←hx];simp
    have hy1:2*((i:Int) / (a:Int))=(y:Int):=by rw [←hy];simp
    have hx2:(i:Int).tmod (a:Int)=(i:Int) % (a:Int):=Int.tmod_eq_emod_of_nonneg (by omega)
    have hy2:(i:Int).tdiv (a:Int)=(i:Int) / (a:Int):=Int.tdiv_eq_ediv_of_nonneg (by omega)
    have hxb:x≤4:=by have:=Nat.mod_lt i ha0;omega
    have hyb:y≤18:=by have:=Nat.div_le_self i a;omega
    have hna:¬(a:Int)=0:=by omega
    replace hsucc:=Lh hsucc
    clear hx hy
    rw [hwy]
    replace hwy:=Lh hwy
    by_cases p3:wy<3
    ·have p3':(wy:Int)<3:=by omega
     have hkk:cellK (kindW wy i) x y= [((x,y),(x+2,y),(x+2,y+2)),((x,y),(x+2,y+2),(x,y+2))]:=by simp [kindW,p3,cellK]
     go_wp2_with (at_builtin;refine wpList_appS _ rfl _ _ 173 rfl (w.heap.size+1) i0 _ 48 Tryz.underlying173 HI.out.1 HI.out.2.1 HI.out.2.2.1 HI.out.2.2.2 rfl (by decide) t6C_len t6C_one _ (cellsTo a (wayOf bs) i) rfl (HP.out.gr (by exact gzz)) (wb.heap.size+1+1+1+1+1) _ [((x,y),(x+2,y),(x+2,y+2)),((x,y),(x+2,y+2),(x,y+2))] 2 rfl rfl (RC.more t6C_len (by simp) (by simp)) (by simp [maxLen];omega) (by simp;omega) (by simp;omega) ?_;intro v' w4 hS4 hkp4 hown;have HS4:=Lh (And.intro hS4 hkp4);clear hS4 hkp4 hown)
     go_roundw
     case rel=>exact⟨i+1,by omega,by go_num,Lh ((HV.out.gr (show Gr wb.heap.size wb _ from by exact gzz) hvl).kp HS4.out.2 (fun e=>by have:=HP.out.own_ge e.symm;omega)),Lh (by rw [hsucc.out,hkk];exact HS4.out.1),Lh (HG.out.trans ((show Gr w.heap.size wb _ from by exact gzz).trans (HS4.out.2.gr (fun b e=>by have:=HP.out.own_ge e;omega) (by simp;omega))))⟩
     case measure=>simp [intOf];omega
    ·have p3':¬(wy:Int)<3:=by omega
     by_cases p7:wy=7∧i=0
     ·obtain ⟨rfl,hi0⟩:=p7
      have hkk:cellK (kindW 7 i) x y= [((x,y),(x+2,y),(x+2,y+2)),((x,y),(x+2,y+2),(x,y+2))]:=by simp [kindW,hi0,cellK]
      have hi1:((i:Int) == 0)=true:=by simp [hi0]
      clear hi0
      go_wp2_with (at_builtin;refine wpList_appS _ rfl _ _ 173 rfl (w.heap.size+1) i0 _ 48 Tryz.underlying173 HI.out.1 HI.out.2.1 HI.out.2.2.1 HI.out.2.2.2 rfl (by decide) t6C_len t6C_one _ (cellsTo a (wayOf bs) i) rfl (HP.out.gr (by exact gzz)) (wb.heap.size+1+1+1+1+1) _ [((x,y),(x+2,y),(x+2,y+2)),((x,y),(x+2,y+2),(x,y+2))] 2 rfl rfl (RC.more t6C_len (by simp) (by simp)) (by simp [maxLen];omega) (by simp;omega) (by simp;omega) ?_;intro v' w4 hS4 hkp4 hown;have HS4:=Lh (And.intro hS4 hkp4);clear hS4 hkp4 hown)
      go_roundw
      case rel=>exact⟨i+1,by omega,by go_num,Lh ((HV.out.gr (show Gr wb.heap.size wb _ from by exact gzz) hvl).kp HS4.out.2 (fun e=>by have:=HP.out.own_ge e.symm;omega)),Lh (by rw [hsucc.out,hkk];exact HS4.out.1),Lh (HG.out.trans ((show Gr w.heap.size wb _ from by exact gzz).trans (HS4.out.2.gr (fun b e=>by have:=HP.out.own_ge e;omega) (by simp;omega))))⟩
      case measure=>simp [intOf];omega
     ·have p77:¬(wy<3∨wy=7∧i=0):=by omega
      by_cases p5:wy<5
      ·have p5':(wy:Int)<5:=by omega
       have p7':((wy:Int) == 7)=false:=by simp;omega
       have hkk:cellK (kindW wy i) x y= [((x,y),(x+2,y),(x,y+2)),((x+2,y),(x+2,y+2),(x,y+2))]:=by simp only [kindW,if_neg p77,if_pos p5,cellK]
       clear p77 p7
       go_wp2_with (at_builtin;refine wpList_appS _ rfl _ _ 173 rfl (w.heap.size+1) i0 _ 48 Tryz.underlying173 HI.out.1 HI.out.2.1 HI.out.2.2.1 HI.out.2.2.2 rfl (by decide) t6C_len t6C_one _ (cellsTo a (wayOf bs) i) rfl (HP.out.gr (by exact gzz)) (wb.heap.size+1+1+1+1+1) _ [((x,y),(x+2,y),(x,y+2)),((x+2,y),(x+2,y+2),(x,y+2))] 2 rfl rfl (RC.more t6C_len (by simp) (by simp)) (by simp [maxLen];omega) (by simp;omega) (by simp;omega) ?_;intro v' w4 hS4 hkp4 hown;have HS4:=Lh (And.intro hS4 hkp4);clear hS4 hkp4 hown)
       go_roundw
       case rel=>exact⟨i+1,by omega,by go_num,Lh ((HV.out.gr (show Gr wb.heap.size wb _ from by exact gzz) hvl).kp HS4.out.2 (fun e=>by have:=HP.out.own_ge e.symm;omega)),Lh (by rw [hsucc.out,hkk];exact HS4.out.1),Lh (HG.out.trans ((show Gr w.heap.size wb _ from by exact gzz).trans (HS4.out.2.gr (fun b e=>by have:=HP.out.own_ge e;omega) (by simp;omega))))⟩
       case measure=>simp [intOf];omega
      ·have p5':¬(wy:Int)<5:=by omega
       by_cases p6:wy<7
       ·have p6':(wy:Int)<7:=by omega
        have p7':((wy:Int) == 7)=false:=by simp;omega
        have hkk:cellK (kindW wy i) x y= [((x,y),(x+2,y),(x+1,y+1)),((x+2,y),(x+2,y+2),(x+1,y+1)),((x+2,y+2),(x,y+2),(x+1,y+1)),((x,y+2),(x,y),(x+1,y+1))]:=by simp only [kindW,if_neg p77,if_neg p5,if_pos p6,cellK]
        clear p77 p7
        go_wp2_with (at_builtin;refine wpList_appS _ rfl _ _ 173 rfl (w.heap.size+1) i0 _ 48 Tryz.underlying173 HI.out.1 HI.out.2.1 HI.out.2.2.1 HI.out.2.2.2 rfl (by decide) t6C_len t6C_one _ (cellsTo a (wayOf bs) i) rfl (HP.out.gr (by exact gzz)) (wb.heap.size+1+1+1+1+1) _ [((x,y),(x+2,y),(x+1,y+1)),((x+2,y),(x+2,y+2),(x+1,y+1)),((x+2,y+2),(x,y+2),(x+1,y+1)),((x,y+2),(x,y),(x+1,y+1))] 4 rfl rfl (RC.more t6C_len (by simp) (by simp)) (by simp [maxLen];omega) (by simp;omega) (by simp;omega) ?_;intro v' w4 hS4 hkp4 hown;have HS4:=Lh (And.intro hS4 hkp4);clear hS4 hkp4 hown)
        go_roundw
        case rel=>exact⟨i+1,by omega,by go_num,Lh ((HV.out.gr (show Gr wb.heap.size wb _ from by exact gzz) hvl).kp HS4.out.2 (fun e=>by have:=HP.out.own_ge e.symm;omega)),Lh (by rw [hsucc.out,hkk];exact HS4.out.1),Lh (HG.out.trans ((show Gr w.heap.size wb _ from by exact gzz).trans (HS4.out.2.gr (fun b e=>by have:=HP.out.own_ge e;omega) (by simp;omega))))⟩
        case measure=>simp [intOf];omega
       ·have p6':¬(wy:Int)<7:=by omega
        have hkk:cellK (kindW wy i) x y= []:=by simp only [kindW,if_neg p77,if_neg p5,if_neg p6,cellK]
        have hi1:((i:Int) == 0)=false:=by simp;omega
        clear p77 p7
        go_wp2
        go_roundw
        case rel=>exact⟨i+1,by omega,by go_num,Lh (HV.out.gr (show Gr wb.heap.size wb _ from by exact gzz) hvl),Lh (by rw [hsucc.out,hkk,List.append_nil];exact HP.out.gr (by exact gzz)),Lh (HG.out.trans (show Gr w.heap.size wb _ from by exact gzz))⟩
        case measure=>simp [intOf];omega
  ·have hil:i=n:=by omega
   subst hil
   go_wp2
   go_ret
   exact⟨_,rfl,by rw [show cellsL a b (wayOf bs)=cellsTo a (wayOf bs) i from by rw [←HN.out];rfl];exact HP.out.mono (by omega),HG.out⟩
end Go.Proofs.YtfgmdhjmgdccdaaGreat
namespace Go.Proofs.YtfgmdhjmgdccdaaGreat
open Go.RowKit Gus Go.Maps
def kfix (a b c d:Int):K4:=if a*d - b*c=0 then(1,0,0,1)else if a*d - b*c<0 then(a,b,-c,-d)else(a,b,c,d)
def mapK (m0 m1 m2 m3:Int):K4:=kfix (m0.tmod 4) (m1.tmod 4) (m2.tmod 4) (m3.tmod 4)
theorem det_kfix (a b c d:Int):0<det4 (kfix a b c d):=by
 unfold kfix
 split
 ·decide
 ·split
  ·have e:det4 (a,b,-c,-d)= -(a*d - b*c):=by simp only [det4];rw [Int.mul_neg,Int.mul_neg];omega
   omega
  ·have e:det4 (a,b,c,d)=a*d - b*c:=rfl
   omega
def small (n:Int):Prop:= -3≤n∧n≤3
theorem tmod4_small (n:Int):small (n.tmod 4):=by
 have h:=Int.natAbs_tmod n 4
 have h1:n.natAbs % 4<4:=Nat.mod_lt _ (by omega)
 have h2:(4:Int).natAbs=4:=rfl
 rw [h2]at h
 unfold small
 omega
theorem kfix_small {a b c d:Int} (ha:small a) (hb:small b) (hc:small c) (hd:small d):small (kfix a b c d).1∧small (kfix a b c d).2.1∧small (kfix a b c d).2.2.1∧small (kfix a b c d).2.2.2:=by
 unfold small at *
 unfold kfix
 split
 ·decide
 ·split<;>(simp only;omega)
theorem mul_bound {a b:Int} {m n:Nat} (h1:a.natAbs≤m) (h2:b.natAbs≤n): -((m*n:Nat):Int)≤a*b∧a*b≤((m*n:Nat):Int):=by
 have h3:(a*b).natAbs≤m*n:=by rw [Int.natAbs_mul];exact Nat.mul_le_mul h1 h2
 omega
theorem small_mul {a b:Int} (h1:small a) (h2:small b): -9≤a*b∧a*b≤9:=by
 unfold small at h1 h2
 exact mul_bound (m:=3) (n:=3) (by omega) (by omega)
theorem small_mulN {a:Int} {x:Nat} (h1:small a) (h2:x≤60): -180≤a*(x:Int)∧a*(x:Int)≤180:=by
 unfold small at h1
 exact mul_bound (m:=3) (n:=60) (by omega) (by omega)
theorem wrap8_id {n:Int} (h1: -128≤n) (h2:n≤127):IntKind.i8.wrap n=n:=by
 have h3:(2:Int) ^ IntKind.bits .i8=256:=by decide
 have h4:(2:Int) ^ (IntKind.bits .i8 - 1)=128:=by decide
 have h5:IntKind.signed .i8=true:=rfl
 simp only [IntKind.wrap,h3,h4,h5,Bool.true_and,decide_eq_true_eq]
 split<;>omega
theorem info_I2:(Tryz.prog.info? 118).map (·.size)=some 2:=by kernel_rfl
set_option maxRecDepth 20000 in
theorem ms_moved (nx ny den fi:Nat) (m0 m1 m2 m3:Int) (cv:Value) (x y:Nat) (hx:x≤60) (hy:y≤60) (w:World):
  Calls Tryz.prog 94 #[.agg #[.int .u8 (nx:Int),.int .u8 (ny:Int),cv,.int .i8 m0,.int .i8 m1,.int .i8 m2,.int .i8 m3,.int .u8 (den:Int),.int .u8 (fi:Int)],.agg #[.int .i64 (x:Int),.int .i64 (y:Int)]] w
   (Ret w (.agg #[.int .i64 ((mapK m0 m1 m2 m3).1*x+(mapK m0 m1 m2 m3).2.1*y),.int .i64 ((mapK m0 m1 m2 m3).2.2.1*x+(mapK m0 m1 m2 m3).2.2.2*y)])):=by
 unfold mapK
 have s0:=tmod4_small m0
 have s1:=tmod4_small m1
 have s2:=tmod4_small m2
 have s3:=tmod4_small m3
 obtain ⟨k0,e0⟩:∃k,m0.tmod 4=k:=⟨_,rfl⟩
 obtain ⟨k1,e1⟩:∃k,m1.tmod 4=k:=⟨_,rfl⟩
 obtain ⟨k2,e2⟩:∃k,m2.tmod 4=k:=⟨_,rfl⟩
 obtain ⟨k3,e3⟩:∃k,m3.tmod 4=k:=⟨_,rfl⟩
 rw [e0]at s0
 rw [e1]at s1
 rw [e2]at s2
 rw [e3]at s3
 rw [e0,e1,e2,e3]
 have p1:=small_mul s0 s3
 have p2:=small_mul s1 s2
 have hs:∀k,small k→IntKind.i8.wrap k=k∧IntKind.i64.wrap k=k∧IntKind.i64.wrap (-k)= -k:=fun k h=>by unfold small at h;exact⟨wrap8_id (by omega) (by omega),wrap64_id (by omega) (by omega),wrap64_id (by omega) (by omega)⟩
 obtain ⟨a0,b0,_⟩:=hs k0 s0
 obtain ⟨a1,b1,_⟩:=hs k1 s1
 obtain ⟨a2,b2,c2⟩:=hs k2 s2
 obtain ⟨a3,b3,c3⟩:=hs k3 s3
 have w1:IntKind.i64.wrap (k0*k3)=k0*k3:=wrap64_id (by omega) (by omega)
 have w2:IntKind.i64.wrap (k1*k2)=k1*k2:=wrap64_id (by omega) (by omega)
 obtain ⟨d,hd⟩:∃d,k0*k3 - k1*k2=d:=⟨_,rfl⟩
 have w3:IntKind.i64.wrap d=d:=wrap64_id (by omega) (by omega)
 have wx:IntKind.i64.wrap (x:Int)=x:=wrap64_id (by omega) (by omega)
 have wy:IntKind.i64.wrap (y:Int)=y:=wrap64_id (by omega) (by omega)
 have fm_:∀k (u:Nat),small k→u≤60→IntKind.i64.wrap (k*(u:Int))=k*(u:Int):=fun k u h1 h2=>by have:=small_mulN h1 h2;exact wrap64_id (by omega) (by omega)
 have fs_:∀k k',small k→small k'→IntKind.i64.wrap (k*(x:Int)+k'*(y:Int))=k*(x:Int)+k'*(y:Int):=fun k k' h1 h2=>by have:=small_mulN h1 hx;have:=small_mulN h2 hy;exact wrap64_id (by omega) (by omega)
 have n2:small (-k2):=by unfold small at *;omega
 have n3:small (-k3):=by unfold small at *;omega
 have g0:=fm_ k0 x s0 hx
 have g1:=fm_ k1 y s1 hy
 have g2:=fs_ k0 k1 s0 s1
 have g3:=fm_ k2 x s2 hx
 have g4:=fm_ k3 y s3 hy
 have g5:=fs_ k2 k3 s2 s3
 have g6:=fm_ (-k2) x n2 hx
 have g7:=fm_ (-k3) y n3 hy
 have g8:=fs_ (-k2) (-k3) n2 n3
 unfold kfix
 rw [hd]
 clear s0 s1 s2 s3 n2 n3 hs fm_ fs_ p1 p2 hx hy
 by_cases d0:d=0
 ·have q1:(d == 0)=true:=by simp [d0]
  have q2:¬d<0:=by omega
  rw [if_pos d0]
  clear d0
  go_enter Tryz.func94,Tryz.ntmps94
  go_wp2
  refine ret_row (g:=w.heap.size+1+1) (cs:= [.int .i64 (x:Int),.int .i64 (y:Int)]) Tryz.results94 rfl ?_ Tryz.underlying118 rfl info_I2 rfl ⟨rfl,?_⟩
  ·exact vbb
  ·exact gzz
 ·have q1:(d == 0)=false:=by simpa using d0
  rw [if_neg d0]
  by_cases d1:d<0
  ·rw [if_pos d1]
   clear d0
   go_enter Tryz.func94,Tryz.ntmps94
   go_wp2
   refine ret_row (g:=w.heap.size+1+1) (cs:= [.int .i64 (k0*(x:Int)+k1*(y:Int)),.int .i64 (-k2*(x:Int)+ -k3*(y:Int))]) Tryz.results94 rfl ?_ Tryz.underlying118 rfl info_I2 rfl ⟨rfl,?_⟩
   ·exact vbb
   ·exact gzz
  ·rw [if_neg d1]
   clear d0
   go_enter Tryz.func94,Tryz.ntmps94
   go_wp2
   refine ret_row (g:=w.heap.size+1+1) (cs:= [.int .i64 (k0*(x:Int)+k1*(y:Int)),.int .i64 (k2*(x:Int)+k3*(y:Int))]) Tryz.results94 rfl ?_ Tryz.underlying118 rfl info_I2 rfl ⟨rfl,?_⟩
   ·exact vbb
   ·exact gzz
set_option maxRecDepth 20000 in
theorem ms_Has (t:Tri) (q:Nat) (w:World):Calls Tryz.prog 95 #[triV t,.int .i64 (q:Int)] w (Ret w (.bool (has3 t q))):=by
 obtain ⟨x,y,z⟩:=t
 unfold has3
 by_cases h1:x=q
 ·have q1:((x:Int) == (q:Int))=true:=by simp [h1]
  have e:(x == q || y == q || z == q)=true:=by simp [h1]
  simp only [e]
  clear e h1
  go_enter Tryz.func95,Tryz.ntmps95
  go_wp2
  go_ret
  exact⟨rfl,by exact gzz⟩
 ·have q1:((x:Int) == (q:Int))=false:=by simp;omega
  by_cases h2:y=q
  ·have q2:((y:Int) == (q:Int))=true:=by simp [h2]
   have e:(x == q || y == q || z == q)=true:=by simp [h2]
   simp only [e]
   clear e h1 h2
   go_enter Tryz.func95,Tryz.ntmps95
   go_wp2
   go_ret
   exact⟨rfl,by exact gzz⟩
  ·have q2:((y:Int) == (q:Int))=false:=by simp;omega
   obtain ⟨r,hr⟩:∃r,(x == q || y == q || z == q)=r:=⟨_,rfl⟩
   have q3:((z:Int) == (q:Int))=r:=by
    rw [←hr]
    have e1:(x == q)=false:=by simpa using h1
    have e2:(y == q)=false:=by simpa using h2
    rw [e1,e2,Bool.false_or,Bool.false_or]
    by_cases h3:z=q
    ·subst h3;simp
    ·have e3:(z == q)=false:=by simpa using h3
     rw [e3];simp;omega
   simp only [hr]
   clear hr h1 h2
   go_enter Tryz.func95,Tryz.ntmps95
   go_wp2
   go_ret
   exact⟨rfl,by exact gzz⟩
end Go.Proofs.YtfgmdhjmgdccdaaGreat
