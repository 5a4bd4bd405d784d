/-
  Part 26 of the proof: GridA GridB ChkR.
-/
import Derived.Test.YtfgmdhjmgdccdaaGreatJ12
import Derived.Test.YtfgmdhjmgdccdaaGreatJ25
import Derived.Test.YtfgmdhjmgdccdaaGreatJ18
set_option linter.unusedSimpArgs false
set_option linter.unusedVariables false
namespace Go.Proofs.YtfgmdhjmgdccdaaGreat
abbrev P2:=Nat×Nat
abbrev T2:=P2×P2×P2
def cross2 (a b c:P2):Int:=((b.1:Int) - a.1)*((c.2:Int) - a.2) - ((b.2:Int) - a.2)*((c.1:Int) - a.1)
def cellK (k x y:Nat):List T2:=
 match k with
 | 0=> [((x,y),(x+2,y),(x+2,y+2)),((x,y),(x+2,y+2),(x,y+2))]
 | 1=> [((x,y),(x+2,y),(x,y+2)),((x+2,y),(x+2,y+2),(x,y+2))]
 | 2=> [((x,y),(x+2,y),(x+1,y+1)),((x+2,y),(x+2,y+2),(x+1,y+1)),((x+2,y+2),(x,y+2),(x+1,y+1)),((x,y+2),(x,y),(x+1,y+1))]
 | _=> []
def hasP (t:T2) (q:P2):Bool:=t.1 == q || t.2.1 == q || t.2.2 == q
def rightB (p q:P2) (u:T2):Bool:=decide (cross2 p q u.1≤0) && decide (cross2 p q u.2.1≤0) && decide (cross2 p q u.2.2≤0)
def beyB (t u:T2):Bool:=rightB t.1 t.2.1 u || rightB t.2.1 t.2.2 u || rightB t.2.2 t.1 u
def outB (t:T2) (q:P2):Bool:=decide (cross2 t.1 t.2.1 q<0) || decide (cross2 t.2.1 t.2.2 q<0) || decide (cross2 t.2.2 t.1 q<0)
def outT (t u:T2):Bool:=(hasP t u.1 || outB t u.1) && (hasP t u.2.1 || outB t u.2.1) && (hasP t u.2.2 || outB t u.2.2)
def posB (t:T2):Bool:=decide (0<cross2 t.1 t.2.1 t.2.2)
def okB (t u:T2):Bool:=beyB t u && beyB u t && outT t u && outT u t
def pairB (l m:List T2):Bool:=l.all fun t=>m.all fun u=>okB t u
theorem kinds_apart:((List.range 9).all fun a=>(List.range 9).all fun b=>(a == b) || (List.range 3).all fun k=>(List.range 3).all fun j=>pairB (cellK k (2*(a % 3)) (2*(a / 3))) (cellK j (2*(b % 3)) (2*(b / 3))))=true:=by decide+kernel
def selfB:List T2→Bool
 | []=>true
 | t :: l=>l.all (fun u=>okB t u) && selfB l
theorem kinds_self:((List.range 9).all fun a=>(List.range 3).all fun k=>selfB (cellK k (2*(a % 3)) (2*(a / 3))) && (cellK k (2*(a % 3)) (2*(a / 3))).all posB)=true:=by decide+kernel
def kindW (way i:Nat):Nat:=if way<3∨way=7∧i=0 then 0 else if way<5 then 1 else if way<7 then 2 else 3
def cellsL (nx ny:Nat) (way:Nat→Nat):List T2:=(List.range (nx*ny)).flatMap fun i=>cellK (kindW (way i) i) (2*(i % nx)) (2*(i / nx))
theorem cellK_big {k x y:Nat} (h:¬k<3):cellK k x y= []:=by
 match k,h with
 | 0,h|1,h|2,h=>omega
 | k+3,_=>rfl
theorem cell_at {nx ny i:Nat} (hx:nx≤3) (hy:ny≤3) (hi:i<nx*ny):i % nx<3∧i / nx<3:=by
 have h0:0<nx:=by rcases Nat.eq_zero_or_pos nx with h|h;· subst h;simp at hi
                  ·exact h
 refine⟨Nat.lt_of_lt_of_le (Nat.mod_lt _ h0) hx,?_⟩
 have:=(Nat.div_lt_iff_lt_mul h0).2 (by rw [Nat.mul_comm];exact hi)
 omega
theorem selfB_pair {l:List T2} (h:selfB l=true):l.Pairwise fun t u=>okB t u=true:=by
 induction l with
 | nil=>exact .nil
 | cons t l ih=>
  simp only [selfB,Bool.and_eq_true,List.all_eq_true]at h
  exact .cons h.1 (ih h.2)
theorem kinds_self' {k x y:Nat} (hx:x<3) (hy:y<3):((cellK k (2*x) (2*y)).Pairwise fun t u=>okB t u=true)∧∀t∈cellK k (2*x) (2*y),posB t=true:=by
 by_cases hk:k<3
 ·have h:=kinds_self
  rw [List.all_eq_true]at h
  have h:=h (x+3*y) (List.mem_range.2 (by omega))
  rw [List.all_eq_true]at h
  have h:=h k (List.mem_range.2 hk)
  rw [show(x+3*y) % 3=x by omega,show(x+3*y) / 3=y by omega,Bool.and_eq_true,List.all_eq_true]at h
  exact⟨selfB_pair h.1,h.2⟩
 ·rw [cellK_big hk]
  exact⟨.nil,by simp⟩
theorem kinds_apart' {k j x y x' y':Nat} (hx:x<3) (hy:y<3) (hx':x'<3) (hy':y'<3) (hne:¬(x=x'∧y=y')):∀t∈cellK k (2*x) (2*y),∀u∈cellK j (2*x') (2*y'),okB t u=true:=by
 by_cases hk:k<3
 ·by_cases hj:j<3
  ·have h:=kinds_apart
   rw [List.all_eq_true]at h
   have h:=h (x+3*y) (List.mem_range.2 (by omega))
   rw [List.all_eq_true]at h
   have h:=h (x'+3*y') (List.mem_range.2 (by omega))
   rw [Bool.or_eq_true]at h
   rcases h with h|h
   ·have h:=eq_of_beq h;omega
   ·rw [List.all_eq_true]at h
    have h:=h k (List.mem_range.2 hk)
    rw [List.all_eq_true]at h
    have h:=h j (List.mem_range.2 hj)
    rw [show(x+3*y) % 3=x by omega,show(x+3*y) / 3=y by omega,show(x'+3*y') % 3=x' by omega,show(x'+3*y') / 3=y' by omega]at h
    unfold pairB at h
    intro t ht u hu
    exact List.all_eq_true.1 (List.all_eq_true.1 h t ht) u hu
  ·rw [cellK_big (k:=j) hj];simp
 ·rw [cellK_big hk];simp
theorem cells_pair {nx ny:Nat} (way:Nat→Nat) (hx:nx≤3) (hy:ny≤3):(cellsL nx ny way).Pairwise fun t u=>okB t u=true:=by
 unfold cellsL
 rw [List.pairwise_flatMap]
 constructor
 ·intro i hi
  obtain ⟨h1,h2⟩:=cell_at hx hy (List.mem_range.1 hi)
  exact(kinds_self' h1 h2).1
 ·refine List.Pairwise.imp_of_mem ?_ List.pairwise_lt_range
  intro i j hi hj hlt
  obtain ⟨h1,h2⟩:=cell_at hx hy (List.mem_range.1 hi)
  obtain ⟨h3,h4⟩:=cell_at hx hy (List.mem_range.1 hj)
  refine kinds_apart' h1 h2 h3 h4 ?_
  intro ⟨e1,e2⟩
  have a:=Nat.div_add_mod i nx
  have b:=Nat.div_add_mod j nx
  rw [e1,e2]at a
  omega
theorem cells_pos {nx ny:Nat} (way:Nat→Nat) (hx:nx≤3) (hy:ny≤3):∀t∈cellsL nx ny way,posB t=true:=by
 intro t ht
 unfold cellsL at ht
 rw [List.mem_flatMap]at ht
 obtain ⟨i,hi,ht⟩:=ht
 obtain ⟨h1,h2⟩:=cell_at hx hy (List.mem_range.1 hi)
 exact(kinds_self' h1 h2).2 t ht
def rotT (t:T2) (j:Nat):T2:=match j % 3 with|0=>t|1=>(t.2.1,t.2.2,t.1)|_=>(t.2.2,t.1,t.2.1)
def corner (t:T2) (j:Nat):P2:=match j % 3 with|0=>t.1|1=>t.2.1|_=>t.2.2
theorem cross2_turn (a b c:P2):cross2 b c a=cross2 a b c:=by unfold cross2;grind
theorem rot_cases (t:T2) (j:Nat):rotT t j=t∨rotT t j=(t.2.1,t.2.2,t.1)∨rotT t j=(t.2.2,t.1,t.2.1):=by
 unfold rotT;split<;>simp
theorem hasP_rot (t:T2) (j:Nat) (q:P2):hasP (rotT t j) q=hasP t q:=by
 unfold hasP
 rcases rot_cases t j with h|h|h<;>rw [h]<;>simp<;>grind
theorem rightB_rot (p q:P2) (t:T2) (j:Nat):rightB p q (rotT t j)=rightB p q t:=by
 unfold rightB
 rcases rot_cases t j with h|h|h<;>rw [h]<;>simp<;>grind
theorem beyB_rot (t u:T2) (i j:Nat):beyB (rotT t i) (rotT u j)=beyB t u:=by
 unfold beyB
 simp only [rightB_rot]
 rcases rot_cases t i with h|h|h<;>rw [h]<;>simp<;>grind
theorem outB_rot (t:T2) (j:Nat) (q:P2):outB (rotT t j) q=outB t q:=by
 unfold outB
 rcases rot_cases t j with h|h|h<;>rw [h]<;>simp<;>grind
theorem outT_rot (t u:T2) (i j:Nat):outT (rotT t i) (rotT u j)=outT t u:=by
 unfold outT
 simp only [hasP_rot,outB_rot]
 rcases rot_cases u j with h|h|h<;>rw [h]<;>simp<;>grind
theorem okB_rot (t u:T2) (i j:Nat):okB (rotT t i) (rotT u j)=okB t u:=by
 unfold okB
 rw [beyB_rot,beyB_rot,outT_rot,outT_rot]
theorem posB_rot (t:T2) (j:Nat):posB (rotT t j)=posB t:=by
 unfold posB
 rcases rot_cases t j with h|h|h<;>rw [h]<;>simp [cross2_turn]
def turned (r:Nat→Nat) (l:List T2):List T2:=l.mapIdx fun t u=>rotT u (r t)
theorem turned_pair {r:Nat→Nat} {l:List T2} (h:l.Pairwise fun t u=>okB t u=true):(turned r l).Pairwise fun t u=>okB t u=true:=by
 unfold turned
 rw [List.pairwise_iff_getElem]at h ⊢
 intro i j hi hj hij
 simp only [List.getElem_mapIdx,okB_rot]
 exact h i j (by simpa using hi) (by simpa using hj) hij
theorem turned_all {r:Nat→Nat} {l:List T2} {p:T2→Prop} (hp:∀t j,p t→p (rotT t j)) (h:∀t∈l,p t):∀t∈turned r l,p t:=by
 intro t ht
 unfold turned at ht
 rw [List.mem_mapIdx]at ht
 obtain ⟨i,hi,rfl⟩:=ht
 exact hp _ _ (h _ (List.getElem_mem hi))
def addp (pl:List P2) (p:P2):List P2:=if p∈pl then pl else pl++ [p]
def placesOf (cs:List P2):List P2:=cs.foldl addp []
def cornersOf (l:List T2):List P2:=l.flatMap fun t=> [t.1,t.2.1,t.2.2]
theorem addp_mem (pl:List P2) (p q:P2):q∈addp pl p↔q∈pl∨q=p:=by
 unfold addp;split
 ·constructor
  ·exact .inl
  ·rintro (h|rfl)<;>assumption
 ·simp
theorem addp_nodup {pl:List P2} (p:P2) (h:pl.Nodup):(addp pl p).Nodup:=by
 unfold addp;split
 ·exact h
 ·rename_i hn
  rw [List.nodup_append]
  exact⟨h,by simp,by intro a ha b hb e;simp at hb;exact hn (hb ▸ e ▸ ha)⟩
theorem addp_pre (pl:List P2) (p:P2):pl <+:addp pl p:=by
 unfold addp;split
 ·exact List.prefix_refl _
 ·exact List.prefix_append _ _
theorem fold_mem (cs pl:List P2) (q:P2):q∈cs.foldl addp pl↔q∈pl∨q∈cs:=by
 induction cs generalizing pl with
 | nil=>simp
 | cons c cs ih=>rw [List.foldl_cons,ih,addp_mem];simp [or_assoc]
theorem fold_nodup (cs pl:List P2) (h:pl.Nodup):(cs.foldl addp pl).Nodup:=by
 induction cs generalizing pl with
 | nil=>exact h
 | cons c cs ih=>exact ih _ (addp_nodup c h)
theorem fold_pre (cs pl:List P2):pl <+:cs.foldl addp pl:=by
 induction cs generalizing pl with
 | nil=>exact List.prefix_refl _
 | cons c cs ih=>exact(addp_pre pl c).trans (ih _)
theorem places_mem (cs:List P2) (q:P2):q∈placesOf cs↔q∈cs:=by unfold placesOf;rw [fold_mem];simp
theorem places_nodup (cs:List P2):(placesOf cs).Nodup:=fold_nodup cs [] .nil
theorem places_take (cs:List P2) (n:Nat):placesOf (cs.take n) <+:placesOf cs:=by
 unfold placesOf
 have h:cs.foldl addp []=(cs.drop n).foldl addp ((cs.take n).foldl addp []):=by rw [←List.foldl_append,List.take_append_drop]
 rw [h]
 exact fold_pre _ _
theorem places_succ {cs:List P2} {n:Nat} {p:P2} (h:cs[n]? =some p):placesOf (cs.take (n+1))=addp (placesOf (cs.take n)) p:=by
 unfold placesOf
 rw [List.take_add_one,h,List.foldl_append]
 rfl
theorem idxOf_pre {l m:List P2} {p:P2} (h:l <+:m) (hp:p∈l):m.idxOf p=l.idxOf p:=by
 obtain ⟨k,rfl⟩:=h
 rw [List.idxOf_append,if_pos hp]
theorem idxOf_addp (pl:List P2) (p:P2):(addp pl p).idxOf p=pl.idxOf p:=by
 unfold addp;split
 ·rfl
 ·rename_i hn
  rw [List.idxOf_append,if_neg hn,List.idxOf_eq_length hn]
  simp
end Go.Proofs.YtfgmdhjmgdccdaaGreat
namespace Go.Proofs.YtfgmdhjmgdccdaaGreat
open Go.RowKit Gus
abbrev K4:=Int×Int×Int×Int
def det4 (k:K4):Int:=k.1*k.2.2.2 - k.2.1*k.2.2.1
def ptM (k:K4) (d:Nat) (p:P2):Pt:=⟨qQ (k.1*p.1+k.2.1*p.2) d,qQ (k.2.2.1*p.1+k.2.2.2*p.2) d⟩
theorem qQ_e (n:Int) {d:Nat} (h:0<d):qQ n d=(n:Rat)*((d:Int):Rat)⁻¹:=by
 unfold qQ
 rw [if_neg (by omega),Rat.div_def]
theorem den_pos {d:Nat} (h:0<d):0<((d:Int):Rat)⁻¹:=by
 rw [Rat.inv_pos]
 exact Rat.intCast_pos.2 (by omega)
theorem twice_pt (k:K4) {d:Nat} (h:0<d) (p q r:P2):twice (ptM k d p) (ptM k d q) (ptM k d r)=((det4 k*cross2 p q r:Int):Rat)*(((d:Int):Rat)⁻¹*((d:Int):Rat)⁻¹):=by
 unfold twice Pt.cross Pt.sub ptM det4 cross2
 simp only [qQ_e _ h]
 simp only [Rat.intCast_mul,Rat.intCast_sub,Rat.intCast_add]
 grind
theorem sgn_num (x:Rat):sgnI x.num=if x<0 then -1 else if x=0 then 0 else 1:=by
 unfold sgnI
 have h1:x.num<0↔x<0:=by
  rw [←Int.not_le,Rat.num_nonneg,Rat.not_le]
 have h2:x.num=0↔x=0:=Rat.num_eq_zero
 simp only [h1,h2]
theorem sgn_scale {m:Int} {e:Rat} (he:0<e):sgnI (((m:Int):Rat)*(e*e)).num=sgnI m:=by
 rw [sgn_num]
 have h1:0<e*e:=Rat.mul_pos he he
 unfold sgnI
 by_cases h2:m<0
 ·rw [if_pos,if_pos h2]
  have h3:((m:Int):Rat)<0:=Rat.intCast_neg_iff.2 h2
  have h4:=Rat.mul_pos (show 0< -((m:Int):Rat) by grind) h1
  grind
 ·rw [if_neg h2]
  by_cases h3:m=0
  ·subst h3
   simp
  ·have h4:0<((m:Int):Rat):=Rat.intCast_pos.2 (by omega)
   have h5:=Rat.mul_pos h4 h1
   rw [if_neg h3,if_neg (by grind),if_neg (by grind)]
theorem sgn_mul_pos {a b:Int} (ha:0<a):sgnI (a*b)=sgnI b:=by
 unfold sgnI
 by_cases h:b<0
 ·rw [if_pos h,if_pos (Int.mul_neg_of_pos_of_neg ha h)]
 ·rw [if_neg h]
  by_cases h0:b=0
  ·subst h0;simp
  ·have:0<a*b:=Int.mul_pos ha (by omega)
   rw [if_neg h0,if_neg (by omega),if_neg (by omega)]
theorem turn_pt {k:K4} {d:Nat} (hk:0<det4 k) (h:0<d) (p q r:P2):turn (ptM k d p) (ptM k d q) (ptM k d r)=sgnI (cross2 p q r):=by
 unfold turn
 rw [twice_pt k h,sgn_scale (den_pos h),sgn_mul_pos hk]
theorem twice_sgn {k:K4} {d:Nat} (hk:0<det4 k) (h:0<d) (p q r:P2):sgnI (twice (ptM k d p) (ptM k d q) (ptM k d r)).num=sgnI (cross2 p q r):=turn_pt hk h p q r
theorem sgn_div {x y:Rat} (hy:0<y):sgnI (x / y).num=sgnI x.num:=by
 rw [sgn_num,sgn_num]
 have h1:x / y<0↔x<0:=by rw [Rat.div_lt_iff hy,Rat.zero_mul]
 have h2:x / y=0↔x=0:=by
  rw [Rat.div_def]
  constructor
  ·intro h3
   rcases Rat.mul_eq_zero.1 h3 with h4|h4
   ·exact h4
   ·have:=Rat.inv_pos.2 hy;rw [h4]at this;exact absurd this (Rat.lt_irrefl)
  ·intro h3;rw [h3,Rat.zero_mul]
 simp only [h1,h2]
theorem sgn_one {n:Int}:sgnI n=1↔0<n:=by unfold sgnI;split<;>(try split)<;>omega
theorem sgn_pos {n:Int}:0<sgnI n↔0<n:=by unfold sgnI;split<;>(try split)<;>omega
theorem sgn_m1 {n:Int}:sgnI n= -1↔n<0:=by unfold sgnI;split<;>(try split)<;>omega
theorem where_out {k:K4} {d:Nat} (hk:0<det4 k) (h:0<d) {t:T2} {q:P2} (hp:posB t=true) (ho:outB t q=true):whereS (barS (ptM k d t.1) (ptM k d t.2.1) (ptM k d t.2.2) (ptM k d q))=0:=by
 unfold posB at hp
 rw [decide_eq_true_eq]at hp
 have hy:0<twice (ptM k d t.1) (ptM k d t.2.1) (ptM k d t.2.2):=by
  rw [←Rat.not_le]
  intro hle
  have h1:=twice_sgn hk h t.1 t.2.1 t.2.2
  rw [sgn_one.2 hp,sgn_num]at h1
  by_cases h2:twice (ptM k d t.1) (ptM k d t.2.1) (ptM k d t.2.2)<0
  ·rw [if_pos h2]at h1;omega
  ·rw [if_neg h2,if_pos (by grind)]at h1;omega
 unfold whereS
 rw [if_pos]
 simp only [barS,sgn_div hy,twice_sgn hk h,sgn_m1]
 unfold outB at ho
 simp only [Bool.or_eq_true,decide_eq_true_eq]at ho
 have e1:cross2 q t.2.1 t.2.2=cross2 t.2.1 t.2.2 q:=(cross2_turn q t.2.1 t.2.2).symm
 have e2:cross2 t.1 q t.2.2=cross2 t.2.2 t.1 q:=(cross2_turn t.2.2 t.1 q)
 rw [e1,e2]
 rcases ho with(h1|h1)|h1
 ·exact .inr (.inr h1)
 ·exact .inl h1
 ·exact .inr (.inl h1)
end Go.Proofs.YtfgmdhjmgdccdaaGreat
namespace Go.Proofs.YtfgmdhjmgdccdaaGreat
open Go.RowKit Gus Go.Maps
set_option maxRecDepth 20000 in
set_option maxHeartbeats 8000000 in
theorem msCheck_raw (m:Msh) (vp vt vs:Value) (w:World) (hM:MS w 0 vp vt vs m) (hp:m.pts.length≤4096) (ht:m.tris.length≤8192) (hs:m.sides.length≤24576)
  (h1:∀W,MS W 0 vp vt vs m→Calls Tryz.prog 97 #[.agg #[vp,vt,vs]] W (Ret W (.bool true))) (h2:∀W,MS W 0 vp vt vs m→Calls Tryz.prog 98 #[.agg #[vp,vt,vs]] W (Ret W (.bool true)))
  (h3:∀W,MS W 0 vp vt vs m→Calls Tryz.prog 99 #[.agg #[vp,vt,vs]] W (Ret W (.bool true))) (h4:∀W,MS W 0 vp vt vs m→Calls Tryz.prog 100 #[.agg #[vp,vt,vs]] W (Ret W (.bool true))):
  Calls Tryz.prog 56 #[.agg #[vp,vt,vs]] w (Ret w (.int .i64 0)):=by
 have HM:=Lib.hid hM
 have h1:=Lib.hid h1
 have h2:=Lib.hid h2
 have h3:=Lib.hid h3
 have h4:=Lib.hid h4
 obtain ⟨a0,b0,rfl⟩:=hM.1.at
 obtain ⟨a1,b1,rfl⟩:=hM.2.1.at
 obtain ⟨a2,b2,rfl⟩:=hM.2.2.at
 have q1:¬((4096:Int)<(m.pts.length:Int)):=by omega
 have q2:¬((8192:Int)<(m.tris.length:Int)):=by omega
 have q3:¬((24576:Int)<(m.sides.length:Int)):=by omega
 clear hM hp ht hs
 go_enter Tryz.func56,Tryz.ntmps56
 go_wp2_with fail
 (refine rtt (h1.out _ (HM.out.gr (by exact gzz))) fun w1 hsz1 hc1 hf1 HG1=>?_;(try simp at hsz1);have hz1_0:w.heap.size<w1.heap.size:=(by omega))
 go_wp2_with fail
 (refine rtt (h2.out _ (HM.out.gr (by exact gcc HG1 gzz))) fun w2 hsz2 hc2 hf2 HG2=>?_;(try simp at hsz2);have hz2_0:w.heap.size<w2.heap.size:=(by omega))
 go_wp2_with fail
 (refine rtt (h3.out _ (HM.out.gr (by exact gcc HG2 (gcc HG1 gzz)))) fun w3 hsz3 hc3 hf3 HG3=>?_;(try simp at hsz3);have hz3_0:w.heap.size<w3.heap.size:=(by omega))
 go_wp2_with fail
 (refine rtt (h4.out _ (HM.out.gr (by exact gcc HG3 (gcc HG2 (gcc HG1 gzz))))) fun w4 hsz4 hc4 hf4 HG4=>?_;(try simp at hsz4);have hz4_0:w.heap.size<w4.heap.size:=(by omega))
 go_wp2
 go_ret
 exact⟨rfl,by exact gcc HG4 (gcc HG3 (gcc HG2 (gcc HG1 gzz)))⟩
end Go.Proofs.YtfgmdhjmgdccdaaGreat
