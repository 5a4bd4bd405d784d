/-
  Part 46 of the proof: GridE GridH PlaP PlaN PlaA.
-/
import Derived.Test.YtjijceliboaeaaaGreatDoorJ37
import Derived.Test.YtjijceliboaeaaaGreatDoorJ45
import Derived.Test.YtjijceliboaeaaaGreatDoorJ41
import Derived.Test.YtjijceliboaeaaaGreatDoorJ32
import Derived.Test.YtjijceliboaeaaaGreatDoorJ14
set_option linter.unusedSimpArgs false
set_option linter.unusedVariables false
namespace Go.Proofs.YtjijceliboaeaaaGreatDoor
def onN (a b q:P2):Bool:=Nat.beq (Nat.add (Nat.add (Nat.mul b.1 q.2) (Nat.mul a.1 b.2)) (Nat.mul a.2 q.1)) (Nat.add (Nat.add (Nat.mul b.2 q.1) (Nat.mul a.2 b.1)) (Nat.mul a.1 q.2)) &&
 ((Nat.ble a.1 q.1 && Nat.ble q.1 b.1) || (Nat.ble b.1 q.1 && Nat.ble q.1 a.1)) && ((Nat.ble a.2 q.2 && Nat.ble q.2 b.2) || (Nat.ble b.2 q.2 && Nat.ble q.2 a.2))
def dbl (p:P2):P2:=(2*p.1,2*p.2)
def sum2 (p r:P2):P2:=(p.1+r.1,p.2+r.2)
def eqP (p q:P2):Bool:=Nat.beq p.1 q.1 && Nat.beq p.2 q.2
def edgesT (t:T2):List (P2×P2):= [(t.1,t.2.1),(t.2.1,t.2.2),(t.2.2,t.1)]
def onB (t u:T2):Bool:=(edgesT t).all fun e=>((edgesT u).all fun f=> !onN e.1 e.2 f.1 || eqP f.1 e.1 || eqP f.1 e.2) &&
 ((edgesT u).all fun f=> !onN (dbl e.1) (dbl e.2) (sum2 f.1 f.2) || (eqP f.1 e.1 && eqP f.2 e.2) || (eqP f.1 e.2 && eqP f.2 e.1))
set_option maxRecDepth 100000 in
theorem kinds_on:((List.range 9).all fun a=>(List.range 9).all fun b=>(List.range 3).all fun k=>(List.range 3).all fun j=>(Nat.beq a b && !Nat.beq k j) || ((cellK k (2*(a % 3)) (2*(a / 3))).all fun t=>(cellK j (2*(b % 3)) (2*(b / 3))).all fun u=>onB t u))=true:=by decide+kernel
theorem kinds_on' {k j x y x' y':Nat} (hx:x<3) (hy:y<3) (hx':x'<3) (hy':y'<3) (he:x=x'∧y=y'→k=j):∀t∈cellK k (2*x) (2*y),∀u∈cellK j (2*x') (2*y'),onB t u=true:=by
 by_cases hk:k<3
 ·by_cases hj:j<3
  ·have h:=kinds_on
   rw [List.all_eq_true]at h
   have h:=h (x+3*y) (List.mem_range.2 (by omega))
   rw [List.all_eq_true]at h
   have h:=h (x'+3*y') (List.mem_range.2 (by omega))
   rw [List.all_eq_true]at h
   have h:=h k (List.mem_range.2 hk)
   rw [List.all_eq_true]at h
   have h:=h j (List.mem_range.2 hj)
   rw [Bool.or_eq_true]at h
   rcases h with h|h
   ·rw [Bool.and_eq_true]at h
    have h1:=Nat.eq_of_beq_eq_true h.1
    have h2:k=j:=he (by omega)
    rw [h2]at h
    simp at h
   ·rw [show(x+3*y) % 3=x by omega,show(x+3*y) / 3=y by omega,show(x'+3*y') % 3=x' by omega,show(x'+3*y') / 3=y' by omega]at h
    intro t ht u hu
    exact List.all_eq_true.1 (List.all_eq_true.1 h t ht) u hu
  ·rw [cellK_big (k:=j) hj];simp
 ·rw [cellK_big hk];simp
theorem cells_on {nx ny:Nat} (way:Nat→Nat) (hx:nx≤3) (hy:ny≤3):∀t∈cellsL nx ny way,∀u∈cellsL nx ny way,onB t u=true:=by
 intro t ht u hu
 unfold cellsL at ht hu
 obtain ⟨i,hi,ht⟩:=List.mem_flatMap.1 ht
 obtain ⟨j,hj,hu⟩:=List.mem_flatMap.1 hu
 obtain ⟨h1,h2⟩:=cell_at hx hy (List.mem_range.1 hi)
 obtain ⟨h3,h4⟩:=cell_at hx hy (List.mem_range.1 hj)
 refine kinds_on' h1 h2 h3 h4 ?_ t ht u hu
 intro ⟨e1,e2⟩
 have a:=Nat.div_add_mod i nx
 have b:=Nat.div_add_mod j nx
 rw [e1,e2]at a
 rw [show i=j by omega]
theorem eqP_eq {p q:P2} (h:eqP p q=true):p=q:=by
 unfold eqP at h
 rw [Bool.and_eq_true]at h
 exact Prod.ext (Nat.eq_of_beq_eq_true h.1) (Nat.eq_of_beq_eq_true h.2)
theorem onN_swap (a b q:P2):onN b a q=onN a b q:=by
 unfold onN
 have e:Nat.beq (Nat.add (Nat.add (Nat.mul a.1 q.2) (Nat.mul b.1 a.2)) (Nat.mul b.2 q.1)) (Nat.add (Nat.add (Nat.mul a.2 q.1) (Nat.mul b.2 a.1)) (Nat.mul b.1 q.2))=Nat.beq (Nat.add (Nat.add (Nat.mul b.1 q.2) (Nat.mul a.1 b.2)) (Nat.mul a.2 q.1)) (Nat.add (Nat.add (Nat.mul b.2 q.1) (Nat.mul a.2 b.1)) (Nat.mul a.1 q.2)):=by
  rw [Bool.eq_iff_iff,Nat.beq_eq,Nat.beq_eq]
  show a.1*q.2+b.1*a.2+b.2*q.1=a.2*q.1+b.2*a.1+b.1*q.2↔b.1*q.2+a.1*b.2+a.2*q.1=b.2*q.1+a.2*b.1+a.1*q.2
  rw [Nat.mul_comm b.1 a.2,Nat.mul_comm b.2 a.1]
  omega
 rw [e,Bool.or_comm (Nat.ble b.1 q.1 && Nat.ble q.1 a.1),Bool.or_comm (Nat.ble b.2 q.2 && Nat.ble q.2 a.2)]
theorem edge_of {t:T2} {a b:P2} (ha:hasP t a=true) (hb:hasP t b=true) (hne:a≠b):(a,b)∈edgesT t∨(b,a)∈edgesT t:=by
 unfold hasP at ha hb
 simp only [Bool.or_eq_true,beq_iff_eq]at ha hb
 unfold edgesT
 rcases ha with(ha|ha)|ha<;>rcases hb with(hb|hb)|hb<;>subst ha<;>subst hb<;>simp_all
def OnOk (L:List T2):Prop:= ∀t∈L,∀u∈L,∀a b,hasP t a=true→hasP t b=true→a≠b→
 (∀q,hasP u q=true→onN a b q=true→q=a∨q=b)∧(∀p r,hasP u p=true→hasP u r=true→p≠r→onN (dbl a) (dbl b) (sum2 p r)=true→(p=a∧r=b)∨(p=b∧r=a))
theorem sum2_comm (p r:P2):sum2 r p=sum2 p r:=by unfold sum2;rw [Nat.add_comm r.1,Nat.add_comm r.2]
theorem onB_edge {t u:T2} (h:onB t u=true) {a b:P2} (he:(a,b)∈edgesT t):
  (∀q,hasP u q=true→onN a b q=true→q=a∨q=b)∧(∀p r,hasP u p=true→hasP u r=true→p≠r→onN (dbl a) (dbl b) (sum2 p r)=true→(p=a∧r=b)∨(p=b∧r=a)):=by
 unfold onB at h
 have h:=List.all_eq_true.1 h _ he
 rw [Bool.and_eq_true]at h
 obtain ⟨h1,h2⟩:=h
 constructor
 ·intro q hq ho
  have hf:∃f∈edgesT u,f.1=q:=by
   unfold hasP at hq
   simp only [Bool.or_eq_true,beq_iff_eq]at hq
   unfold edgesT
   rcases hq with(e|e)|e<;>subst e
   ·exact⟨(u.1,u.2.1),by simp,rfl⟩
   ·exact⟨(u.2.1,u.2.2),by simp,rfl⟩
   ·exact⟨(u.2.2,u.1),by simp,rfl⟩
  obtain ⟨f,hf,rfl⟩:=hf
  have h:=List.all_eq_true.1 h1 f hf
  simp only [ho,Bool.not_true,Bool.false_or,Bool.or_eq_true]at h
  rcases h with h|h
  ·exact .inl (eqP_eq h)
  ·exact .inr (eqP_eq h)
 ·intro p r hp hr hne ho
  have key:∀p r,(p,r)∈edgesT u→onN (dbl a) (dbl b) (sum2 p r)=true→(p=a∧r=b)∨(p=b∧r=a):=by
   intro p r hf ho
   have h:=List.all_eq_true.1 h2 _ hf
   simp only [ho,Bool.not_true,Bool.false_or,Bool.or_eq_true,Bool.and_eq_true]at h
   rcases h with h|h
   ·exact .inl ⟨eqP_eq h.1,eqP_eq h.2⟩
   ·exact .inr ⟨eqP_eq h.1,eqP_eq h.2⟩
  rcases edge_of hp hr hne with hf|hf
  ·exact key p r hf ho
  ·rcases key r p hf (by rw [sum2_comm];exact ho)with⟨e1,e2⟩|⟨e1,e2⟩
   ·exact .inr ⟨e2,e1⟩
   ·exact .inl ⟨e2,e1⟩
theorem onOk_all {L:List T2} (h:∀t∈L,∀u∈L,onB t u=true):OnOk L:=by
 intro t ht u hu a b ha hb hne
 rcases edge_of ha hb hne with he|he
 ·exact onB_edge (h t ht u hu) he
 ·obtain ⟨h1,h2⟩:=onB_edge (h t ht u hu) he
  refine⟨fun q hq ho=>(h1 q hq (by rw [onN_swap];exact ho)).symm,fun p r hp hr hn ho=>?_⟩
  exact(h2 p r hp hr hn (by rw [onN_swap];exact ho)).symm
theorem onOk_turned {L:List T2} (r:Nat→Nat) (h:OnOk L):OnOk (turned r L):=by
 intro t ht u hu a b ha hb hne
 unfold turned at ht hu
 obtain ⟨i,hi,rfl⟩:=List.mem_mapIdx.1 ht
 obtain ⟨j,hj,rfl⟩:=List.mem_mapIdx.1 hu
 rw [hasP_rot]at ha hb
 have:=h L[i] (List.getElem_mem hi) L[j] (List.getElem_mem hj) a b ha hb hne
 simpa only [hasP_rot] using this
end Go.Proofs.YtjijceliboaeaaaGreatDoor
namespace Go.Proofs.YtjijceliboaeaaaGreatDoor
open Go.RowKit Gus Go.Maps
theorem RawM.onOk (x:RawM):OnOk x.L:=onOk_turned _ (onOk_all (cells_on _ (by omega) (by omega)))
theorem half_d {d:Nat} (h:0<d):((d:Int):Rat)⁻¹=2*(((2*d:Nat):Int):Rat)⁻¹:=by
 have h2:0<2*d:=by omega
 have a1:((d:Int):Rat)*((d:Int):Rat)⁻¹=1:=Rat.mul_inv_cancel _ (fun e=>by have:=Rat.intCast_eq_zero_iff.1 e;omega)
 have a2:(((2*d:Nat):Int):Rat)*(((2*d:Nat):Int):Rat)⁻¹=1:=Rat.mul_inv_cancel _ (fun e=>by have:=Rat.intCast_eq_zero_iff.1 e;omega)
 have a3:(((2*d:Nat):Int):Rat)=2*((d:Int):Rat):=by rw [Int.natCast_mul,Rat.intCast_mul];rfl
 rw [a3]at a2 ⊢
 generalize (2*((d:Int):Rat))⁻¹=c2 at *
 generalize ((d:Int):Rat)⁻¹=c at *
 generalize ((d:Int):Rat)=D at *
 grind
theorem qQ_dbl (n:Int) {d:Nat} (h:0<d):qQ (2*n) (2*d)=qQ n d:=by
 rw [qQ_e _ h,qQ_e _ (show 0<2*d by omega),half_d h,Rat.intCast_mul]
 generalize (((2*d:Nat):Int):Rat)⁻¹=c
 show(2:Rat)*(n:Rat)*c=_
 grind
theorem qQ_mid (n m:Int) {d:Nat} (h:0<d):(qQ n d+qQ m d)*(1 / 2)=qQ (n+m) (2*d):=by
 rw [qQ_e _ h,qQ_e _ h,qQ_e _ (show 0<2*d by omega),half_d h,Rat.intCast_add]
 generalize (((2*d:Nat):Int):Rat)⁻¹=c
 grind
def fX (k:K4) (p:P2):Int:=k.1*p.1+k.2.1*p.2
def fY (k:K4) (p:P2):Int:=k.2.2.1*p.1+k.2.2.2*p.2
theorem ptM_f (k:K4) (d:Nat) (p:P2):ptM k d p=⟨qQ (fX k p) d,qQ (fY k p) d⟩:=rfl
theorem f_dbl (k:K4) (p:P2):fX k (dbl p)=2*fX k p∧fY k (dbl p)=2*fY k p:=by
 unfold fX fY dbl
 simp only [Int.natCast_mul]
 constructor<;>grind
theorem f_sum (k:K4) (p r:P2):fX k (sum2 p r)=fX k p+fX k r∧fY k (sum2 p r)=fY k p+fY k r:=by
 unfold fX fY sum2
 simp only [Int.natCast_add]
 constructor<;>grind
theorem ptM_dbl (k:K4) {d:Nat} (h:0<d) (p:P2):ptM k (2*d) (dbl p)=ptM k d p:=by
 rw [ptM_f,ptM_f,(f_dbl k p).1,(f_dbl k p).2,qQ_dbl _ h,qQ_dbl _ h]
theorem ptM_mid (k:K4) {d:Nat} (h:0<d) (p r:P2):midP (ptM k d p) (ptM k d r)=ptM k (2*d) (sum2 p r):=by
 rw [ptM_f,ptM_f,ptM_f,(f_sum k p r).1,(f_sum k p r).2]
 unfold midP
 rw [qQ_mid _ _ h,qQ_mid _ _ h]
end Go.Proofs.YtjijceliboaeaaaGreatDoor
namespace Go.Proofs.YtjijceliboaeaaaGreatDoor
open Go.RowKit Gus Go.Maps
theorem ptsAt2 (x:RawM) {i:Nat} (h:i<x.P.length):x.mesh.pts[i]? =some (ptM x.k x.d x.P[i]):=by
 show(x.P.map (ptM x.k x.d))[i]? =_
 rw [List.getElem?_map,List.getElem?_eq_getElem h]
 rfl
theorem P_inj2 (x:RawM) {i j:Nat} (hi:i<x.P.length) (hj:j<x.P.length) (h:x.P[i]=x.P[j]):i=j:=by
 have:=idx_of x.net.nd (List.getElem?_eq_getElem hi)
 rw [h,idx_of x.net.nd (List.getElem?_eq_getElem hj)]at this
 exact this.symm
theorem has3_L2 (x:RawM) {t:Tri} (ht:t∈x.tris) {i:Nat} (hi:i<x.P.length) (h:has3 t i=true):∃T∈x.L,t=triOf x.P T∧hasP T x.P[i]=true:=by
 obtain ⟨T,hT,rfl⟩:=List.mem_map.1 ht
 refine⟨T,hT,rfl,?_⟩
 have hq:x.P[i]∈x.P:=List.getElem_mem hi
 rw [←has3_tri (x.net.at hT) hq,idx_of x.net.nd (List.getElem?_eq_getElem hi)]
 exact h
theorem idxP_L2 (x:RawM) {t:Tri} {T:T2} (hT:T∈x.L) (e:t=triOf x.P T) {i:Nat} (hi:i<x.P.length) (h:has3 t i=true):hasP T x.P[i]=true:=by
 subst e
 have hq:x.P[i]∈x.P:=List.getElem_mem hi
 rw [←has3_tri (x.net.at hT) hq,idx_of x.net.nd (List.getElem?_eq_getElem hi)]
 exact h
theorem onN_iff (a b q:P2) (h1:b.1*q.2+a.1*b.2+a.2*q.1=b.2*q.1+a.2*b.1+a.1*q.2) (h2:(a.1≤q.1∧q.1≤b.1)∨(b.1≤q.1∧q.1≤a.1)) (h3:(a.2≤q.2∧q.2≤b.2)∨(b.2≤q.2∧q.2≤a.2)):onN a b q=true:=by
 unfold onN
 simp only [Bool.and_eq_true,Bool.or_eq_true,Nat.ble_eq]
 refine⟨⟨?_,h2⟩,h3⟩
 rw [Nat.beq_eq]
 exact h1
theorem onN_half {a b q:P2} (h:dbl q=sum2 a b):onN a b q=true:=by
 unfold dbl sum2 at h
 have h1:2*q.1=a.1+b.1:=congrArg Prod.fst h
 have h2:2*q.2=a.2+b.2:=congrArg Prod.snd h
 refine onN_iff a b q ?_ (by omega) (by omega)
 have e:2*(b.1*q.2+a.1*b.2+a.2*q.1)=2*(b.2*q.1+a.2*b.1+a.1*q.2):=by
  have a1:b.1*(2*q.2)=b.1*(a.2+b.2):=by rw [h2]
  have a2:a.2*(2*q.1)=a.2*(a.1+b.1):=by rw [h1]
  have a3:b.2*(2*q.1)=b.2*(a.1+b.1):=by rw [h1]
  have a4:a.1*(2*q.2)=a.1*(a.2+b.2):=by rw [h2]
  grind
 omega
theorem onN_mid (a b:P2):onN (dbl a) (dbl b) (sum2 a b)=true:=by
 refine onN_half ?_
 unfold dbl sum2
 exact Prod.ext (by show 2*(a.1+b.1)=2*a.1+2*b.1;omega) (by show 2*(a.2+b.2)=2*a.2+2*b.2;omega)
theorem edge_at (x:RawM) {c:Nat} (hc:c<(esM x.tris).length):∃(ea eb:Nat) (la:ea<x.P.length) (lb:eb<x.P.length),(esM x.tris)[c].a=(ea:Int)∧(esM x.tris)[c].b=(eb:Int)∧ea<eb∧midE x.mesh.pts (esM x.tris)[c]=ptM x.k (2*x.d) (sum2 x.P[ea] x.P[eb])∧∃U∈x.L,hasP U x.P[ea]=true∧hasP U x.P[eb]=true:=by
 obtain ⟨ea,eb,hEa,hEb,la,lb⟩:=esM_Ends x.good _ (List.getElem_mem hc)
 obtain ⟨hab,u,hu,hua,hub⟩:=(esM_mem x.good ea eb).1 (List.mem_map.2 ⟨(esM x.tris)[c],List.getElem_mem hc,by rw [hEa,hEb]⟩)
 obtain ⟨U,hU,heU,hUa⟩:=has3_L2 x hu la hua
 have hUb:=idxP_L2 x hU heU lb hub
 refine⟨ea,eb,la,lb,hEa,hEb,hab,?_,U,hU,hUa,hUb⟩
 unfold midE
 rw [hEa,hEb,Int.toNat_natCast,Int.toNat_natCast,List.getD_eq_getElem?_getD,List.getD_eq_getElem?_getD,ptsAt2 x la,ptsAt2 x lb]
 exact ptM_mid x.k x.d_pos.1 _ _
theorem at_nodup (x:RawM) (o:Nat):(atM o x.mesh).Nodup:=by
 have hnd:x.mesh.pts.Nodup:=(x.net.goodO x.det x.smallK x.d_pos.1 x.d_pos.2 (sd:=x.sd)).nd
 have hk:=x.det
 have hd:=x.d_pos.1
 unfold atM
 split
 ·rw [List.nodup_append]
  refine⟨hnd,?_,?_⟩
  ·rw [List.Nodup,List.pairwise_map,List.pairwise_iff_getElem]
   intro i j hi hj hij e
   obtain ⟨a,b,la,lb,h1,h2,hab,hm,U,hU,hUa,hUb⟩:=edge_at x (c:=i) hi
   obtain ⟨c,d,lc,ld,h3,h4,hcd,hm2,V,hV,hVc,hVd⟩:=edge_at x (c:=j) hj
   have e2:midE x.mesh.pts (esM x.tris)[i]=midE x.mesh.pts (esM x.tris)[j]:=e
   rw [hm,hm2]at e2
   have e3:=ptM_inj hk (by omega) e2
   have n1:x.P[a]≠x.P[b]:=fun e=>by have:=P_inj2 x la lb e;omega
   have n2:x.P[c]≠x.P[d]:=fun e=>by have:=P_inj2 x lc ld e;omega
   have ho:onN (dbl x.P[a]) (dbl x.P[b]) (sum2 x.P[c] x.P[d])=true:=by rw [←e3];exact onN_mid _ _
   have hp:=List.pairwise_iff_getElem.1 (esM_pair x.tris) i j hi hj hij
   rcases(x.onOk U hU V hV _ _ hUa hUb n1).2 _ _ hVc hVd n2 ho with⟨f1,f2⟩|⟨f1,f2⟩
   ·have g1:=P_inj2 x lc la f1
    have g2:=P_inj2 x ld lb f2
    exact hp ⟨by rw [h1,h3,g1],by rw [h2,h4,g2]⟩
   ·have g1:=P_inj2 x lc lb f1
    have g2:=P_inj2 x ld la f2
    omega
  ·intro p hp q hq e
   obtain ⟨i,hi,rfl⟩:=List.getElem_of_mem hp
   obtain ⟨f,hf,rfl⟩:=List.mem_map.1 hq
   obtain ⟨j,hj,rfl⟩:=List.getElem_of_mem hf
   have hi2:i<x.P.length:=by rw [←x.ptsN];exact hi
   obtain ⟨a,b,la,lb,h1,h2,hab,hm,U,hU,hUa,hUb⟩:=edge_at x (c:=j) hj
   have e1:x.mesh.pts[i]=ptM x.k x.d x.P[i]:=(List.getElem?_eq_some_iff.1 (ptsAt2 x hi2)).2
   have e2:x.mesh.pts[i]=midE x.mesh.pts (esM x.tris)[j]:=e
   rw [e1,hm,←ptM_dbl x.k hd]at e2
   have e3:=ptM_inj hk (by omega) e2
   have n1:x.P[a]≠x.P[b]:=fun e=>by have:=P_inj2 x la lb e;omega
   obtain ⟨u,hu,huq⟩:=(x.net.mem x.P[i]).1 (List.getElem_mem hi2)
   have ho:=onN_half e3
   unfold dbl sum2 at e3
   have g1:2*x.P[i].1=x.P[a].1+x.P[b].1:=congrArg Prod.fst e3
   have g2:2*x.P[i].2=x.P[a].2+x.P[b].2:=congrArg Prod.snd e3
   rcases(x.onOk U hU u hu _ _ hUa hUb n1).1 _ huq ho with f|f
   ·rw [f]at g1 g2
    exact n1 (Prod.ext (by omega) (by omega))
   ·rw [f]at g1 g2
    exact n1 (Prod.ext (by omega) (by omega))
 ·exact hnd
def nodeW (q:Nat):Rat×Rat×Rat:=match q with
 | 0=>(1,0,0)|1=>(0,1,0)|2=>(0,0,1)|3=>(0,1 / 2,1 / 2)|4=>(1 / 2,0,1 / 2)|_=>(1 / 2,1 / 2,0)
def Pt.add (a b:Pt):Pt:=⟨a.x+b.x,a.y+b.y⟩
def Pt.sc (a:Pt) (c:Rat):Pt:=⟨a.x*c,a.y*c⟩
def atP (a b c:Pt) (l:Rat×Rat×Rat):Pt:=((a.sc l.1).add (b.sc l.2.1)).add (c.sc l.2.2)
theorem Pt.ext' {p q:Pt} (h1:p.x=q.x) (h2:p.y=q.y):p=q:=by cases p;cases q;simp_all
theorem atP_0 (a b c:Pt):atP a b c (nodeW 0)=a:=by
 refine Pt.ext' ?_ ?_
 ·show a.x*1+b.x*0+c.x*0=a.x;grind
 ·show a.y*1+b.y*0+c.y*0=a.y;grind
theorem atP_1 (a b c:Pt):atP a b c (nodeW 1)=b:=by
 refine Pt.ext' ?_ ?_
 ·show a.x*0+b.x*1+c.x*0=b.x;grind
 ·show a.y*0+b.y*1+c.y*0=b.y;grind
theorem atP_2 (a b c:Pt):atP a b c (nodeW 2)=c:=by
 refine Pt.ext' ?_ ?_
 ·show a.x*0+b.x*0+c.x*1=c.x;grind
 ·show a.y*0+b.y*0+c.y*1=c.y;grind
theorem atP_3 (a b c:Pt):atP a b c (nodeW 3)=midP b c:=by
 refine Pt.ext' ?_ ?_
 ·show a.x*0+b.x*(1 / 2)+c.x*(1 / 2)=(b.x+c.x)*(1 / 2);grind
 ·show a.y*0+b.y*(1 / 2)+c.y*(1 / 2)=(b.y+c.y)*(1 / 2);grind
theorem atP_4 (a b c:Pt):atP a b c (nodeW 4)=midP c a:=by
 refine Pt.ext' ?_ ?_
 ·show a.x*(1 / 2)+b.x*0+c.x*(1 / 2)=(c.x+a.x)*(1 / 2);grind
 ·show a.y*(1 / 2)+b.y*0+c.y*(1 / 2)=(c.y+a.y)*(1 / 2);grind
theorem atP_5 (a b c:Pt):atP a b c (nodeW 5)=midP a b:=by
 refine Pt.ext' ?_ ?_
 ·show a.x*(1 / 2)+b.x*(1 / 2)+c.x*0=(a.x+b.x)*(1 / 2);grind
 ·show a.y*(1 / 2)+b.y*(1 / 2)+c.y*0=(a.y+b.y)*(1 / 2);grind
theorem midP_comm (a b:Pt):midP b a=midP a b:=by
 unfold midP
 rw [Rat.add_comm b.x,Rat.add_comm b.y]
theorem mid_no (x:RawM) {t:Tri} (ht:t∈x.tris) {a b:Nat} (hab:a≠b) (ha:has3 t a=true) (hb:has3 t b=true):
  edgeNo (esM x.tris) a b<(esM x.tris).length∧(atM 2 x.mesh)[x.mesh.pts.length+edgeNo (esM x.tris) a b]? =some (midP (x.mesh.pts.getD a ⟨0,0⟩) (x.mesh.pts.getD b ⟨0,0⟩)):=by
 obtain ⟨e,he,h1,h2⟩:=edgeNo_get (esM_hasE x.good ht hab ha hb)
 have hlt:=(List.getElem?_eq_some_iff.1 he).1
 refine⟨hlt,?_⟩
 unfold atM
 rw [if_pos rfl,List.getElem?_append_right (Nat.le_add_right _ _),Nat.add_sub_cancel_left,List.getElem?_map,show(esM x.mesh.tris)[edgeNo (esM x.tris) a b]? =some e from he]
 show some (midE x.mesh.pts e)=_
 unfold midE
 rw [h1,h2,Int.toNat_natCast,Int.toNat_natCast]
 rcases Nat.le_total a b with h|h
 ·rw [Nat.min_eq_left h,Nat.max_eq_right h]
 ·rw [Nat.min_eq_right h,Nat.max_eq_left h,midP_comm]
theorem has3_self (t:Tri):has3 t t.1=true∧has3 t t.2.1=true∧has3 t t.2.2=true:=by unfold has3;simp
theorem atM_pts (o:Nat) (m:Msh) {k:Nat} (h:k<m.pts.length):(atM o m)[k]? =some (m.pts.getD k ⟨0,0⟩):=by
 rw [List.getD_eq_getElem?_getD,List.getElem?_eq_getElem h]
 unfold atM
 split
 ·rw [List.getElem?_append_left h,List.getElem?_eq_getElem h];rfl
 ·rw [List.getElem?_eq_getElem h];rfl
theorem row_at (x:RawM) (o:Nat) (ho:o=1∨o=2) {t:Tri} (ht:t∈x.mesh.tris) {q k:Nat} (hq:(rowM o x.mesh t)[q]? =some k):
  k<numM o x.mesh∧(atM o x.mesh)[k]? =some (atP (x.mesh.pts.getD t.1 ⟨0,0⟩) (x.mesh.pts.getD t.2.1 ⟨0,0⟩) (x.mesh.pts.getD t.2.2 ⟨0,0⟩) (nodeW q)):=by
 have hg:=x.goodM t ht
 have hg2:=hg
 unfold goodT at hg
 obtain ⟨s1,s2,s3⟩:=has3_self t
 have hN:=x.ptsN
 have ht2:t∈x.tris:=ht
 have key:∀ {k:Nat} {p:Pt},(atM o x.mesh)[k]? =some p→k<numM o x.mesh:=fun h=>by rw [←atM_len];exact(List.getElem?_eq_some_iff.1 h).1
 suffices h:(atM o x.mesh)[k]? =some (atP (x.mesh.pts.getD t.1 ⟨0,0⟩) (x.mesh.pts.getD t.2.1 ⟨0,0⟩) (x.mesh.pts.getD t.2.2 ⟨0,0⟩) (nodeW q))from⟨key h,h⟩
 unfold rowM rowT at hq
 rcases q with _|_|_|q
 ·have:t.1=k:=by simpa using hq
  rw [atP_0,←this];exact atM_pts o x.mesh (by omega)
 ·have:t.2.1=k:=by simpa using hq
  rw [atP_1,←this];exact atM_pts o x.mesh (by omega)
 ·have:t.2.2=k:=by simpa using hq
  rw [atP_2,←this];exact atM_pts o x.mesh (by omega)
 ·rcases ho with rfl|rfl
  ·simp at hq
  ·have d12:t.1≠t.2.1:=by omega
   have d23:t.2.1≠t.2.2:=by omega
   have d31:t.2.2≠t.1:=by omega
   rcases q with _|_|_|q
   ·have:x.mesh.pts.length+edgeNo (esM x.mesh.tris) t.2.1 t.2.2=k:=by simpa using hq
    rw [atP_3,←this];exact(mid_no x ht2 d23 s2 s3).2
   ·have:x.mesh.pts.length+edgeNo (esM x.mesh.tris) t.2.2 t.1=k:=by simpa using hq
    rw [atP_4,←this];exact(mid_no x ht2 d31 s3 s1).2
   ·have:x.mesh.pts.length+edgeNo (esM x.mesh.tris) t.1 t.2.1=k:=by simpa using hq
    rw [atP_5,←this];exact(mid_no x ht2 d12 s1 s2).2
   ·simp at hq
theorem row_all (x:RawM) (o:Nat) (ho:o=1∨o=2) {k:Nat} (hk:k<numM o x.mesh):∃t∈x.mesh.tris,k∈rowM o x.mesh t:=by
 have hN:=x.ptsN
 by_cases h:k<x.P.length
 ·obtain ⟨T,hT,h1⟩:=(x.net.mem x.P[k]).1 (List.getElem_mem h)
  have h2:=has3_tri (x.net.at hT) (List.getElem_mem h)
  rw [x.net.nd.idxOf_getElem k h,h1]at h2
  refine⟨triOf x.P T,List.mem_map.2 ⟨T,hT,rfl⟩,?_⟩
  unfold rowM rowT
  unfold has3 at h2
  simp only [Bool.or_eq_true,beq_iff_eq]at h2
  simp only [List.mem_append,List.mem_cons,List.not_mem_nil,or_false]
  omega
 ·have ho2:o=2:=by
   rcases ho with rfl|rfl
   ·unfold numM at hk;rw [if_neg (by omega)]at hk;omega
   ·rfl
  subst ho2
  unfold numM at hk
  rw [if_pos rfl]at hk
  obtain ⟨c,rfl⟩:∃c,k=x.P.length+c:=⟨k - x.P.length,by omega⟩
  have hc:c<(esM x.tris).length:=by
   have:x.P.length+c<x.P.length+(esM x.tris).length:=by rw [←hN];exact(by rw [hN]at hk ⊢;exact hk)
   omega
  obtain ⟨ea,eb,hEa,hEb,la,lb⟩:=esM_Ends x.good _ (List.getElem_mem hc)
  obtain ⟨hab,u,hu,hua,hub⟩:=(esM_mem x.good ea eb).1 (List.mem_map.2 ⟨(esM x.tris)[c],List.getElem_mem hc,by rw [hEa,hEb]⟩)
  have hno:∀a b:Nat,min a b=ea→max a b=eb→edgeNo (esM x.mesh.tris) a b=c:=by
   intro a b h1 h2
   have hw:hasE (esM x.tris) a b:=⟨_,List.getElem_mem hc,by rw [h1];exact hEa,by rw [h2];exact hEb⟩
   obtain ⟨e,he,q1,q2⟩:=edgeNo_get hw
   obtain ⟨hl,hee⟩:=List.getElem?_eq_some_iff.1 he
   rcases Nat.lt_trichotomy (edgeNo (esM x.tris) a b) c with g|g|g
   ·exact absurd ⟨by rw [hee,q1,h1,hEa],by rw [hee,q2,h2,hEb]⟩ (List.pairwise_iff_getElem.1 (esM_pair x.tris) _ _ hl hc g)
   ·exact g
   ·exact absurd ⟨by rw [hee,q1,h1,hEa],by rw [hee,q2,h2,hEb]⟩ (List.pairwise_iff_getElem.1 (esM_pair x.tris) _ _ hc hl g)
  refine⟨u,hu,?_⟩
  unfold rowM rowT
  rw [if_pos rfl,List.mem_append]
  refine .inr ?_
  unfold has3 at hua hub
  simp only [Bool.or_eq_true,beq_iff_eq]at hua hub
  have n1:=hno u.2.1 u.2.2
  have n2:=hno u.2.2 u.1
  have n3:=hno u.1 u.2.1
  simp only [List.mem_cons,List.not_mem_nil,or_false,hN]
  rcases hua with(h1|h1)|h1<;>rcases hub with(h2|h2)|h2
  ·omega
  ·exact .inr (.inr (by rw [n3 (by omega) (by omega)]))
  ·exact .inr (.inl (by rw [n2 (by omega) (by omega)]))
  ·exact .inr (.inr (by rw [n3 (by omega) (by omega)]))
  ·omega
  ·exact .inl (by rw [n1 (by omega) (by omega)])
  ·exact .inr (.inl (by rw [n2 (by omega) (by omega)]))
  ·exact .inl (by rw [n1 (by omega) (by omega)])
  ·omega
end Go.Proofs.YtjijceliboaeaaaGreatDoor
namespace Go.Proofs.YtjijceliboaeaaaGreatDoor
open Go.RowKit Gus Go.Maps
theorem sh_Many (o:Nat) (w:World) (ho:o=1∨o=2):Calls Tryz.prog 9 #[.int .i64 (o:Int)] w (Ret w (.int .i64 ((3*o:Nat):Int))):=by
 rcases ho with rfl|rfl
 all_goals
  go_enter Tryz.func9,Tryz.ntmps9
  go_wp2
  go_ret
  exact⟨rfl,Gr.refl _ _⟩
set_option maxRecDepth 20000 in
set_option maxHeartbeats 4000000 in
theorem sh_there (o n:Nat) (w:World) (ho:o=1∨o=2) (hn:n<3*o):Calls Tryz.prog 26 #[.int .i64 (o:Int),.int .i64 (n:Int)] w (Ret w (.bool true)):=by
 have HM:=Lib.hid (fun W=>sh_Many o W ho)
 have z0:(0:Int)≤(n:Int):=by omega
 have z1:(n:Int)<((3*o:Nat):Int):=by omega
 obtain ⟨k,hk⟩:∃k,3*o=k:=⟨_,rfl⟩
 rw [hk]at HM z1
 clear hk hn ho
 go_enter Tryz.func26,Tryz.ntmps26
 go_wp2_with fail
 (refine(HM.out _).mono ?_;rintro e w1 ⟨rfl,hg1⟩;(try (with_reducible replace hg1:=Gr.of_drew hg1));have hsz1:=hg1.size;(try simp at hsz1);skip;obtain ⟨hc1,hf1⟩:=hg1.cells;have HG1:=Lib.hid hg1;clear hg1)
 go_wp2
 go_ret
 exact⟨rfl,by(with_reducible (repeat' (first|exact Gr.refl _ _|refine Gr.drew ?_|refine Gr.setCell ?_ ?_ _|refine Gr.alloc ?_ ?_ _|refine Gr.trans ?_ (Gr.mono HG1.out ?_)|omega|(simp;done)|(simp;omega))))⟩
theorem run_idx2 (a b:Value) (n:Nat) (v:Value) (hv:([a,b])[n]? =some v) (w:World):(Instr.index 85 (.agg #[a,b]) (.int .i64 (n:Int))).run Tryz.prog w= .ok v w:=by
 have hu:Tryz.prog.underlying 85=some (.array 2 3):=by kernel_rfl
 have hu2:Tryz.prog.underlying 3=some (.int .i64):=by kernel_rfl
 have hs1:Tryz.t3.size=1:=by kernel_rfl
 rcases(show n=0∨n=1∨2≤n by omega)with rfl|rfl|h
 ·cases hv
  show _=_
  simp [Instr.index,run_underlying hu,run_underlying hu2,Go.part,Go.isAgg,hs1,asIntOf]
 ·cases hv
  show _=_
  simp [Instr.index,run_underlying hu,run_underlying hu2,Go.part,Go.isAgg,hs1,asIntOf]
 ·rw [List.getElem?_eq_none (by simpa using h)]at hv;cases hv
section
variable {P:Program} (w:World) {ops:Array Oper} {rest:List Oper} {o:Oper} {a:Act} {Q:Exit→Act→World→Prop}
theorem wpA_index (hg:o.guard=none) (t:TypeId) (x i:Operand) (hop:o.op=Op.index t x i) (u k v:Value) (hx:a.eval x=u) (hi:a.eval i=k) (hrun:(Instr.index t u k).run P w= .ok v w) (h:wpList P ops Q rest (a.put o.dst v) w):wpList P ops Q (o :: rest) a w:=by
 refine wpList_plain hg fun K' hK'=>?_
 unfold Oper.wp
 simp [execOp,hop,hx,hi,hrun,Result.andThen]
 exact hK' _ _ h
end
def SdW (w:World):Prop:=w.cell? ⟨0,0,none⟩=some (.int .i64 1)∧w.cell? ⟨0,1,none⟩=some (.int .i64 2)∧w.cell? ⟨0,2,none⟩=some (.int .i64 2)∧w.cell? ⟨0,3,none⟩=some (.int .i64 0)∧w.cell? ⟨0,4,none⟩=some (.int .i64 0)∧w.cell? ⟨0,5,none⟩=some (.int .i64 1)∧0<w.heap.size
set_option maxRecDepth 20000 in
set_option maxHeartbeats 4000000 in
theorem Node_lo0 {n:Int} {m:Nat} (o:Nat) (w:World) (hT:∀W,Calls Tryz.prog 26 #[.int .i64 (o:Int),.int .i64 0] W (Ret W (.bool true))) (hI:∀W,Calls Tryz.prog 27 #[.int .i64 1] W (Ret W (frV n m))):
  Calls Tryz.prog 10 #[.int .i64 (o:Int),.int .i64 0] w (Ret w (.tuple #[.agg #[.int .u64 (lowN (sz n)),.string (bigS (sz n)),.bool (ng n),.int .u64 (lowN m),.string (bigS m),.int .u64 0,.string ⟨#[]⟩,.bool false,.int .u64 0,.string ⟨#[]⟩,.int .u64 0,.string ⟨#[]⟩,.bool false,.int .u64 0,.string ⟨#[]⟩],.int .i64 0])):=by
 have HT:=Lib.hid hT
 have HI:=Lib.hid hI
 clear hT hI
 go_enter Tryz.func10,Tryz.ntmps10
 go_wp2_with fail
 (refine(HT.out _).mono ?_;rintro e w1 ⟨rfl,hg1⟩;(try (with_reducible replace hg1:=Gr.of_drew hg1));have hsz1:=hg1.size;(try simp at hsz1);have hz1_0:w.heap.size<w1.heap.size:=(by omega);have hz1_1:w.heap.size+1<w1.heap.size:=(by omega);obtain ⟨hc1,hf1⟩:=hg1.cells;have HG1:=Lib.hid hg1;clear hg1)
 go_wp2_with fail
 (refine(HI.out _).mono ?_;rintro e w2 ⟨rfl,hg2⟩;(try (with_reducible replace hg2:=Gr.of_drew hg2));have hsz2:=hg2.size;(try simp at hsz2);have hz2_0:w.heap.size<w2.heap.size:=(by omega);have hz2_1:w.heap.size+1<w2.heap.size:=(by omega);obtain ⟨hc2,hf2⟩:=hg2.cells;have HG2:=Lib.hid hg2;clear hg2)
 go_wp2
 refine ret_row2 (g:=w.heap.size) Tryz.results10 rfl rfl (VB.set (cs:= [.int .u64 0,.string ⟨#[]⟩,.bool false,.int .u64 0,.string ⟨#[]⟩,.int .u64 0,.string ⟨#[]⟩,.bool false,.int .u64 0,.string ⟨#[]⟩,.int .u64 0,.string ⟨#[]⟩,.bool false,.int .u64 0,.string ⟨#[]⟩]) ?_ [.int .u64 (lowN (sz n)),.string (bigS (sz n)),.bool (ng n),.int .u64 (lowN m),.string (bigS m),.int .u64 0,.string ⟨#[]⟩,.bool false,.int .u64 0,.string ⟨#[]⟩,.int .u64 0,.string ⟨#[]⟩,.bool false,.int .u64 0,.string ⟨#[]⟩] rfl) Tryz.underlying60 rfl info_F3 rfl ⟨rfl,?_⟩
 ·(with_reducible (repeat' (first|(refine VB.new' ?_;exact(by first|omega|(simp;done)|(simp;omega)))|apply VB.put2|apply VB.put3|apply VB.put5|refine VB.drew ?_|refine VB.far ?_ ?_ _|refine VB.alloc ?_ _|refine VB.gr ?_ HG1.out ?_|refine VB.gr ?_ HG2.out ?_|omega|(simp;done)|(simp;omega))))
 ·(with_reducible (repeat' (first|exact Gr.refl _ _|refine Gr.drew ?_|refine Gr.setCell ?_ ?_ _|refine Gr.alloc ?_ ?_ _|refine Gr.trans ?_ (Gr.mono HG2.out ?_)|refine Gr.trans ?_ (Gr.mono HG1.out ?_)|omega|(simp;done)|(simp;omega))))
set_option maxRecDepth 20000 in
set_option maxHeartbeats 4000000 in
theorem Node_lo1 {n:Int} {m:Nat} (o:Nat) (w:World) (hT:∀W,Calls Tryz.prog 26 #[.int .i64 (o:Int),.int .i64 1] W (Ret W (.bool true))) (hI:∀W,Calls Tryz.prog 27 #[.int .i64 1] W (Ret W (frV n m))):
  Calls Tryz.prog 10 #[.int .i64 (o:Int),.int .i64 1] w (Ret w (.tuple #[.agg #[.int .u64 0,.string ⟨#[]⟩,.bool false,.int .u64 0,.string ⟨#[]⟩,.int .u64 (lowN (sz n)),.string (bigS (sz n)),.bool (ng n),.int .u64 (lowN m),.string (bigS m),.int .u64 0,.string ⟨#[]⟩,.bool false,.int .u64 0,.string ⟨#[]⟩],.int .i64 0])):=by
 have HT:=Lib.hid hT
 have HI:=Lib.hid hI
 clear hT hI
 go_enter Tryz.func10,Tryz.ntmps10
 go_wp2_with fail
 (refine(HT.out _).mono ?_;rintro e w1 ⟨rfl,hg1⟩;(try (with_reducible replace hg1:=Gr.of_drew hg1));have hsz1:=hg1.size;(try simp at hsz1);have hz1_0:w.heap.size<w1.heap.size:=(by omega);have hz1_1:w.heap.size+1<w1.heap.size:=(by omega);obtain ⟨hc1,hf1⟩:=hg1.cells;have HG1:=Lib.hid hg1;clear hg1)
 go_wp2_with fail
 (refine(HI.out _).mono ?_;rintro e w2 ⟨rfl,hg2⟩;(try (with_reducible replace hg2:=Gr.of_drew hg2));have hsz2:=hg2.size;(try simp at hsz2);have hz2_0:w.heap.size<w2.heap.size:=(by omega);have hz2_1:w.heap.size+1<w2.heap.size:=(by omega);obtain ⟨hc2,hf2⟩:=hg2.cells;have HG2:=Lib.hid hg2;clear hg2)
 go_wp2
 refine ret_row2 (g:=w.heap.size) Tryz.results10 rfl rfl (VB.set (cs:= [.int .u64 0,.string ⟨#[]⟩,.bool false,.int .u64 0,.string ⟨#[]⟩,.int .u64 0,.string ⟨#[]⟩,.bool false,.int .u64 0,.string ⟨#[]⟩,.int .u64 0,.string ⟨#[]⟩,.bool false,.int .u64 0,.string ⟨#[]⟩]) ?_ [.int .u64 0,.string ⟨#[]⟩,.bool false,.int .u64 0,.string ⟨#[]⟩,.int .u64 (lowN (sz n)),.string (bigS (sz n)),.bool (ng n),.int .u64 (lowN m),.string (bigS m),.int .u64 0,.string ⟨#[]⟩,.bool false,.int .u64 0,.string ⟨#[]⟩] rfl) Tryz.underlying60 rfl info_F3 rfl ⟨rfl,?_⟩
 ·(with_reducible (repeat' (first|(refine VB.new' ?_;exact(by first|omega|(simp;done)|(simp;omega)))|apply VB.put2|apply VB.put3|apply VB.put5|refine VB.drew ?_|refine VB.far ?_ ?_ _|refine VB.alloc ?_ _|refine VB.gr ?_ HG1.out ?_|refine VB.gr ?_ HG2.out ?_|omega|(simp;done)|(simp;omega))))
 ·(with_reducible (repeat' (first|exact Gr.refl _ _|refine Gr.drew ?_|refine Gr.setCell ?_ ?_ _|refine Gr.alloc ?_ ?_ _|refine Gr.trans ?_ (Gr.mono HG2.out ?_)|refine Gr.trans ?_ (Gr.mono HG1.out ?_)|omega|(simp;done)|(simp;omega))))
set_option maxRecDepth 20000 in
set_option maxHeartbeats 4000000 in
theorem Node_lo2 {n:Int} {m:Nat} (o:Nat) (w:World) (hT:∀W,Calls Tryz.prog 26 #[.int .i64 (o:Int),.int .i64 2] W (Ret W (.bool true))) (hI:∀W,Calls Tryz.prog 27 #[.int .i64 1] W (Ret W (frV n m))):
  Calls Tryz.prog 10 #[.int .i64 (o:Int),.int .i64 2] w (Ret w (.tuple #[.agg #[.int .u64 0,.string ⟨#[]⟩,.bool false,.int .u64 0,.string ⟨#[]⟩,.int .u64 0,.string ⟨#[]⟩,.bool false,.int .u64 0,.string ⟨#[]⟩,.int .u64 (lowN (sz n)),.string (bigS (sz n)),.bool (ng n),.int .u64 (lowN m),.string (bigS m)],.int .i64 0])):=by
 have HT:=Lib.hid hT
 have HI:=Lib.hid hI
 clear hT hI
 go_enter Tryz.func10,Tryz.ntmps10
 go_wp2_with fail
 (refine(HT.out _).mono ?_;rintro e w1 ⟨rfl,hg1⟩;(try (with_reducible replace hg1:=Gr.of_drew hg1));have hsz1:=hg1.size;(try simp at hsz1);have hz1_0:w.heap.size<w1.heap.size:=(by omega);have hz1_1:w.heap.size+1<w1.heap.size:=(by omega);obtain ⟨hc1,hf1⟩:=hg1.cells;have HG1:=Lib.hid hg1;clear hg1)
 go_wp2_with fail
 (refine(HI.out _).mono ?_;rintro e w2 ⟨rfl,hg2⟩;(try (with_reducible replace hg2:=Gr.of_drew hg2));have hsz2:=hg2.size;(try simp at hsz2);have hz2_0:w.heap.size<w2.heap.size:=(by omega);have hz2_1:w.heap.size+1<w2.heap.size:=(by omega);obtain ⟨hc2,hf2⟩:=hg2.cells;have HG2:=Lib.hid hg2;clear hg2)
 go_wp2
 refine ret_row2 (g:=w.heap.size) Tryz.results10 rfl rfl (VB.set (cs:= [.int .u64 0,.string ⟨#[]⟩,.bool false,.int .u64 0,.string ⟨#[]⟩,.int .u64 0,.string ⟨#[]⟩,.bool false,.int .u64 0,.string ⟨#[]⟩,.int .u64 0,.string ⟨#[]⟩,.bool false,.int .u64 0,.string ⟨#[]⟩]) ?_ [.int .u64 0,.string ⟨#[]⟩,.bool false,.int .u64 0,.string ⟨#[]⟩,.int .u64 0,.string ⟨#[]⟩,.bool false,.int .u64 0,.string ⟨#[]⟩,.int .u64 (lowN (sz n)),.string (bigS (sz n)),.bool (ng n),.int .u64 (lowN m),.string (bigS m)] rfl) Tryz.underlying60 rfl info_F3 rfl ⟨rfl,?_⟩
 ·(with_reducible (repeat' (first|(refine VB.new' ?_;exact(by first|omega|(simp;done)|(simp;omega)))|apply VB.put2|apply VB.put3|apply VB.put5|refine VB.drew ?_|refine VB.far ?_ ?_ _|refine VB.alloc ?_ _|refine VB.gr ?_ HG1.out ?_|refine VB.gr ?_ HG2.out ?_|omega|(simp;done)|(simp;omega))))
 ·(with_reducible (repeat' (first|exact Gr.refl _ _|refine Gr.drew ?_|refine Gr.setCell ?_ ?_ _|refine Gr.alloc ?_ ?_ _|refine Gr.trans ?_ (Gr.mono HG2.out ?_)|refine Gr.trans ?_ (Gr.mono HG1.out ?_)|omega|(simp;done)|(simp;omega))))
set_option maxRecDepth 20000 in
set_option maxHeartbeats 4000000 in
theorem Node_hi3 {n:Int} {m:Nat} (o:Nat) (w:World) (hS:SdW w) (hT:∀W,Calls Tryz.prog 26 #[.int .i64 (o:Int),.int .i64 3] W (Ret W (.bool true))) (hI:∀W,Calls Tryz.prog 28 #[.int .i64 1,.int .i64 2] W (Ret W (.tuple #[frV n m,.int .i64 0]))):
  Calls Tryz.prog 10 #[.int .i64 (o:Int),.int .i64 3] w (Ret w (.tuple #[.agg #[.int .u64 0,.string ⟨#[]⟩,.bool false,.int .u64 0,.string ⟨#[]⟩,.int .u64 (lowN (sz n)),.string (bigS (sz n)),.bool (ng n),.int .u64 (lowN m),.string (bigS m),.int .u64 (lowN (sz n)),.string (bigS (sz n)),.bool (ng n),.int .u64 (lowN m),.string (bigS m)],.int .i64 0])):=by
 have HT:=Lib.hid hT
 have HI:=Lib.hid hI
 obtain ⟨h0,h1,h2,h3,h4,h5,hl⟩:=hS
 clear hT hI
 go_enter Tryz.func10,Tryz.ntmps10
 go_wp2_with fail
 (refine(HT.out _).mono ?_;rintro e w1 ⟨rfl,hg1⟩;(try (with_reducible replace hg1:=Gr.of_drew hg1));have hsz1:=hg1.size;(try simp at hsz1);have hy1_0:0<w1.heap.size:=(by omega);have hz1_0:w.heap.size<w1.heap.size:=(by omega);have hz1_1:w.heap.size+1<w1.heap.size:=(by omega);obtain ⟨hc1,hf1⟩:=hg1.cells;have HG1:=Lib.hid hg1;clear hg1)
 go_wp2_with fail
 (refine(HI.out _).mono ?_;rintro e w2 ⟨rfl,hg2⟩;(try (with_reducible replace hg2:=Gr.of_drew hg2));have hsz2:=hg2.size;(try simp at hsz2);have hy2_0:0<w2.heap.size:=(by omega);have hz2_0:w.heap.size<w2.heap.size:=(by omega);have hz2_1:w.heap.size+1<w2.heap.size:=(by omega);obtain ⟨hc2,hf2⟩:=hg2.cells;have HG2:=Lib.hid hg2;clear hg2)
 go_wp2
 have HZ:=Lib.hid (show VB (w2.alloc (.cells #[.int .u64 (lowN (sz n)),.string (bigS (sz n)),.bool (ng n),.int .u64 (lowN m),.string (bigS m)] 53)) (w.heap.size+1) [.int .u64 0,.string ⟨#[]⟩,.bool false,.int .u64 0,.string ⟨#[]⟩,.int .u64 0,.string ⟨#[]⟩,.bool false,.int .u64 0,.string ⟨#[]⟩,.int .u64 0,.string ⟨#[]⟩,.bool false,.int .u64 0,.string ⟨#[]⟩]from by(with_reducible (repeat' (first|(refine VB.new' ?_;exact(by first|omega|(simp;done)|(simp;omega)))|apply VB.put2|apply VB.put3|apply VB.put5|refine VB.drew ?_|refine VB.far ?_ ?_ _|refine VB.alloc ?_ _|refine VB.gr ?_ HG1.out ?_|refine VB.gr ?_ HG2.out ?_|omega|(simp;done)|(simp;omega)))))
 have HF:=Lib.hid (show VB (w2.alloc (.cells #[.int .u64 (lowN (sz n)),.string (bigS (sz n)),.bool (ng n),.int .u64 (lowN m),.string (bigS m)] 53)) w2.heap.size [.int .u64 (lowN (sz n)),.string (bigS (sz n)),.bool (ng n),.int .u64 (lowN m),.string (bigS m)]from by(with_reducible (repeat' (first|(refine VB.new' ?_;exact(by first|omega|(simp;done)|(simp;omega)))|apply VB.put2|apply VB.put3|apply VB.put5|refine VB.drew ?_|refine VB.far ?_ ?_ _|refine VB.alloc ?_ _|omega|(simp;done)|(simp;omega)))))
 have HR:=Lib.hid (show VB (w2.alloc (.cells #[.int .u64 (lowN (sz n)),.string (bigS (sz n)),.bool (ng n),.int .u64 (lowN m),.string (bigS m)] 53)) w.heap.size [.int .u64 0,.string ⟨#[]⟩,.bool false,.int .u64 0,.string ⟨#[]⟩,.int .u64 0,.string ⟨#[]⟩,.bool false,.int .u64 0,.string ⟨#[]⟩,.int .u64 0,.string ⟨#[]⟩,.bool false,.int .u64 0,.string ⟨#[]⟩]from by(with_reducible (repeat' (first|(refine VB.new' ?_;exact(by first|omega|(simp;done)|(simp;omega)))|apply VB.put2|apply VB.put3|apply VB.put5|refine VB.drew ?_|refine VB.far ?_ ?_ _|refine VB.alloc ?_ _|refine VB.gr ?_ HG1.out ?_|refine VB.gr ?_ HG2.out ?_|omega|(simp;done)|(simp;omega)))))
 have HG:=Lib.hid (show Gr w.heap.size w (w2.alloc (.cells #[.int .u64 (lowN (sz n)),.string (bigS (sz n)),.bool (ng n),.int .u64 (lowN m),.string (bigS m)] 53))from by(with_reducible (repeat' (first|exact Gr.refl _ _|refine Gr.drew ?_|refine Gr.setCell ?_ ?_ _|refine Gr.alloc ?_ ?_ _|refine Gr.trans ?_ (Gr.mono HG2.out ?_)|refine Gr.trans ?_ (Gr.mono HG1.out ?_)|omega|(simp;done)|(simp;omega)))))
 go_loopw [30] (fun s wr=> ∃j:Nat,s= .int .i64 j∧((j=0∧Hid (VB wr (w.heap.size+1) [.int .u64 0,.string ⟨#[]⟩,.bool false,.int .u64 0,.string ⟨#[]⟩,.int .u64 0,.string ⟨#[]⟩,.bool false,.int .u64 0,.string ⟨#[]⟩,.int .u64 0,.string ⟨#[]⟩,.bool false,.int .u64 0,.string ⟨#[]⟩]))∨(j=1∧Hid (VB wr (w.heap.size+1) [.int .u64 0,.string ⟨#[]⟩,.bool false,.int .u64 0,.string ⟨#[]⟩,.int .u64 (lowN (sz n)),.string (bigS (sz n)),.bool (ng n),.int .u64 (lowN m),.string (bigS m),.int .u64 0,.string ⟨#[]⟩,.bool false,.int .u64 0,.string ⟨#[]⟩]))∨(j=2∧Hid (VB wr (w.heap.size+1) [.int .u64 0,.string ⟨#[]⟩,.bool false,.int .u64 0,.string ⟨#[]⟩,.int .u64 (lowN (sz n)),.string (bigS (sz n)),.bool (ng n),.int .u64 (lowN m),.string (bigS m),.int .u64 (lowN (sz n)),.string (bigS (sz n)),.bool (ng n),.int .u64 (lowN m),.string (bigS m)])))∧Hid (VB wr w2.heap.size [.int .u64 (lowN (sz n)),.string (bigS (sz n)),.bool (ng n),.int .u64 (lowN m),.string (bigS m)])∧Hid (VB wr w.heap.size [.int .u64 0,.string ⟨#[]⟩,.bool false,.int .u64 0,.string ⟨#[]⟩,.int .u64 0,.string ⟨#[]⟩,.bool false,.int .u64 0,.string ⟨#[]⟩,.int .u64 0,.string ⟨#[]⟩,.bool false,.int .u64 0,.string ⟨#[]⟩])∧Hid (Gr w.heap.size w wr)) (fun s _=>2 - (intOf s).toNat)
 case atStart=>exact⟨0,rfl,.inl ⟨rfl,HZ⟩,HF,HR,HG⟩
 case round=>
  clear HZ HF HR HG
  obtain ⟨j,rfl,hj,HFr,HRr,HGr⟩:=hrel
  have hszr:=HGr.out.size
  have hfl:=HFr.out.lt
  obtain ⟨f0,f1,f2,f3,f4,-⟩:=HFr.out.five
  rcases hj with⟨rfl,HV⟩|⟨rfl,HV⟩|⟨rfl,HV⟩
  ·obtain ⟨cc,cf,cl⟩:=HV.out
   have c0:=cc 0 _ rfl
   have c1:=cc 1 _ rfl
   have c2:=cc 2 _ rfl
   have c3:=cc 3 _ rfl
   have c4:=cc 4 _ rfl
   have c5:=cc 5 _ rfl
   have c6:=cc 6 _ rfl
   have c7:=cc 7 _ rfl
   have c8:=cc 8 _ rfl
   have c9:=cc 9 _ rfl
   have c10:=cc 10 _ rfl
   have c11:=cc 11 _ rfl
   have c12:=cc 12 _ rfl
   have c13:=cc 13 _ rfl
   have c14:=cc 14 _ rfl
   have e0:=cf 0 (by simp)
   have e1:=cf 1 (by simp)
   have e2:=cf 2 (by simp)
   have e3:=cf 3 (by simp)
   have e4:=cf 4 (by simp)
   have e5:=cf 5 (by simp)
   have e6:=cf 6 (by simp)
   have e7:=cf 7 (by simp)
   have e8:=cf 8 (by simp)
   have e9:=cf 9 (by simp)
   have e10:=cf 10 (by simp)
   have e11:=cf 11 (by simp)
   have e12:=cf 12 (by simp)
   have e13:=cf 13 (by simp)
   have e14:=cf 14 (by simp)
   clear cc cf
   simp only [show((0:Nat):Int)=0 from rfl]
   go_wp2_with (refine wpA_index _ rfl 85 _ _ rfl (.agg #[.int .i64 1,.int .i64 2]) (.int .i64 0) (.int .i64 1) rfl rfl (run_idx2 _ _ 0 _ rfl _) ?_)
   go_roundw
   case rel=>exact⟨1,rfl,.inr (.inl ⟨rfl,Lib.hid (VB.part (cs:= [.int .u64 0,.string ⟨#[]⟩,.bool false,.int .u64 0,.string ⟨#[]⟩,.int .u64 0,.string ⟨#[]⟩,.bool false,.int .u64 0,.string ⟨#[]⟩,.int .u64 0,.string ⟨#[]⟩,.bool false,.int .u64 0,.string ⟨#[]⟩]) 5 [.int .u64 (lowN (sz n)),.string (bigS (sz n)),.bool (ng n),.int .u64 (lowN m),.string (bigS m)] (by(with_reducible (repeat' (first|(refine VB.new' ?_;exact(by first|omega|(simp;done)|(simp;omega)))|apply VB.put2|apply VB.put3|apply VB.put5|refine VB.drew ?_|refine VB.far ?_ ?_ _|refine VB.alloc ?_ _|exact HV.out|omega|(simp;done)|(simp;omega))))) rfl (by simp))⟩),Lib.hid (by(with_reducible (repeat' (first|(refine VB.new' ?_;exact(by first|omega|(simp;done)|(simp;omega)))|apply VB.put2|apply VB.put3|apply VB.put5|refine VB.drew ?_|refine VB.far ?_ ?_ _|refine VB.alloc ?_ _|exact HFr.out|omega|(simp;done)|(simp;omega))))),Lib.hid (by(with_reducible (repeat' (first|(refine VB.new' ?_;exact(by first|omega|(simp;done)|(simp;omega)))|apply VB.put2|apply VB.put3|apply VB.put5|refine VB.drew ?_|refine VB.far ?_ ?_ _|refine VB.alloc ?_ _|exact HRr.out|omega|(simp;done)|(simp;omega))))),Lib.hid (by(with_reducible (repeat' (first|exact Gr.refl _ _|refine Gr.drew ?_|refine Gr.setCell ?_ ?_ _|refine Gr.alloc ?_ ?_ _|refine Gr.trans ?_ (Gr.mono HGr.out ?_)|omega|(simp;done)|(simp;omega)))))⟩
   case measure=>simp [intOf]
  ·obtain ⟨cc,cf,cl⟩:=HV.out
   have c0:=cc 0 _ rfl
   have c1:=cc 1 _ rfl
   have c2:=cc 2 _ rfl
   have c3:=cc 3 _ rfl
   have c4:=cc 4 _ rfl
   have c5:=cc 5 _ rfl
   have c6:=cc 6 _ rfl
   have c7:=cc 7 _ rfl
   have c8:=cc 8 _ rfl
   have c9:=cc 9 _ rfl
   have c10:=cc 10 _ rfl
   have c11:=cc 11 _ rfl
   have c12:=cc 12 _ rfl
   have c13:=cc 13 _ rfl
   have c14:=cc 14 _ rfl
   have e0:=cf 0 (by simp)
   have e1:=cf 1 (by simp)
   have e2:=cf 2 (by simp)
   have e3:=cf 3 (by simp)
   have e4:=cf 4 (by simp)
   have e5:=cf 5 (by simp)
   have e6:=cf 6 (by simp)
   have e7:=cf 7 (by simp)
   have e8:=cf 8 (by simp)
   have e9:=cf 9 (by simp)
   have e10:=cf 10 (by simp)
   have e11:=cf 11 (by simp)
   have e12:=cf 12 (by simp)
   have e13:=cf 13 (by simp)
   have e14:=cf 14 (by simp)
   clear cc cf
   simp only [show((1:Nat):Int)=1 from rfl]
   go_wp2_with (refine wpA_index _ rfl 85 _ _ rfl (.agg #[.int .i64 1,.int .i64 2]) (.int .i64 1) (.int .i64 2) rfl rfl (run_idx2 _ _ 1 _ rfl _) ?_)
   go_roundw
   case rel=>exact⟨2,rfl,.inr (.inr ⟨rfl,Lib.hid (VB.part (cs:= [.int .u64 0,.string ⟨#[]⟩,.bool false,.int .u64 0,.string ⟨#[]⟩,.int .u64 (lowN (sz n)),.string (bigS (sz n)),.bool (ng n),.int .u64 (lowN m),.string (bigS m),.int .u64 0,.string ⟨#[]⟩,.bool false,.int .u64 0,.string ⟨#[]⟩]) 10 [.int .u64 (lowN (sz n)),.string (bigS (sz n)),.bool (ng n),.int .u64 (lowN m),.string (bigS m)] (by(with_reducible (repeat' (first|(refine VB.new' ?_;exact(by first|omega|(simp;done)|(simp;omega)))|apply VB.put2|apply VB.put3|apply VB.put5|refine VB.drew ?_|refine VB.far ?_ ?_ _|refine VB.alloc ?_ _|exact HV.out|omega|(simp;done)|(simp;omega))))) rfl (by simp))⟩),Lib.hid (by(with_reducible (repeat' (first|(refine VB.new' ?_;exact(by first|omega|(simp;done)|(simp;omega)))|apply VB.put2|apply VB.put3|apply VB.put5|refine VB.drew ?_|refine VB.far ?_ ?_ _|refine VB.alloc ?_ _|exact HFr.out|omega|(simp;done)|(simp;omega))))),Lib.hid (by(with_reducible (repeat' (first|(refine VB.new' ?_;exact(by first|omega|(simp;done)|(simp;omega)))|apply VB.put2|apply VB.put3|apply VB.put5|refine VB.drew ?_|refine VB.far ?_ ?_ _|refine VB.alloc ?_ _|exact HRr.out|omega|(simp;done)|(simp;omega))))),Lib.hid (by(with_reducible (repeat' (first|exact Gr.refl _ _|refine Gr.drew ?_|refine Gr.setCell ?_ ?_ _|refine Gr.alloc ?_ ?_ _|refine Gr.trans ?_ (Gr.mono HGr.out ?_)|omega|(simp;done)|(simp;omega)))))⟩
   case measure=>simp [intOf]
  ·obtain ⟨cc,cf,cl⟩:=HV.out
   have c0:=cc 0 _ rfl
   have c1:=cc 1 _ rfl
   have c2:=cc 2 _ rfl
   have c3:=cc 3 _ rfl
   have c4:=cc 4 _ rfl
   have c5:=cc 5 _ rfl
   have c6:=cc 6 _ rfl
   have c7:=cc 7 _ rfl
   have c8:=cc 8 _ rfl
   have c9:=cc 9 _ rfl
   have c10:=cc 10 _ rfl
   have c11:=cc 11 _ rfl
   have c12:=cc 12 _ rfl
   have c13:=cc 13 _ rfl
   have c14:=cc 14 _ rfl
   have e0:=cf 0 (by simp)
   have e1:=cf 1 (by simp)
   have e2:=cf 2 (by simp)
   have e3:=cf 3 (by simp)
   have e4:=cf 4 (by simp)
   have e5:=cf 5 (by simp)
   have e6:=cf 6 (by simp)
   have e7:=cf 7 (by simp)
   have e8:=cf 8 (by simp)
   have e9:=cf 9 (by simp)
   have e10:=cf 10 (by simp)
   have e11:=cf 11 (by simp)
   have e12:=cf 12 (by simp)
   have e13:=cf 13 (by simp)
   have e14:=cf 14 (by simp)
   clear cc cf
   obtain ⟨rc,rf,rl⟩:=HRr.out
   have d0:=rc 0 _ rfl
   have d1:=rc 1 _ rfl
   have d2:=rc 2 _ rfl
   have d3:=rc 3 _ rfl
   have d4:=rc 4 _ rfl
   have d5:=rc 5 _ rfl
   have d6:=rc 6 _ rfl
   have d7:=rc 7 _ rfl
   have d8:=rc 8 _ rfl
   have d9:=rc 9 _ rfl
   have d10:=rc 10 _ rfl
   have d11:=rc 11 _ rfl
   have d12:=rc 12 _ rfl
   have d13:=rc 13 _ rfl
   have d14:=rc 14 _ rfl
   have k0:=rf 0 (by simp)
   have k1:=rf 1 (by simp)
   have k2:=rf 2 (by simp)
   have k3:=rf 3 (by simp)
   have k4:=rf 4 (by simp)
   have k5:=rf 5 (by simp)
   have k6:=rf 6 (by simp)
   have k7:=rf 7 (by simp)
   have k8:=rf 8 (by simp)
   have k9:=rf 9 (by simp)
   have k10:=rf 10 (by simp)
   have k11:=rf 11 (by simp)
   have k12:=rf 12 (by simp)
   have k13:=rf 13 (by simp)
   have k14:=rf 14 (by simp)
   clear rc rf
   simp only [show((2:Nat):Int)=2 from rfl]
   go_wp2
   refine ret_row2 (g:=w.heap.size) Tryz.results10 rfl rfl (VB.set (cs:= [.int .u64 0,.string ⟨#[]⟩,.bool false,.int .u64 0,.string ⟨#[]⟩,.int .u64 0,.string ⟨#[]⟩,.bool false,.int .u64 0,.string ⟨#[]⟩,.int .u64 0,.string ⟨#[]⟩,.bool false,.int .u64 0,.string ⟨#[]⟩]) ?_ [.int .u64 0,.string ⟨#[]⟩,.bool false,.int .u64 0,.string ⟨#[]⟩,.int .u64 (lowN (sz n)),.string (bigS (sz n)),.bool (ng n),.int .u64 (lowN m),.string (bigS m),.int .u64 (lowN (sz n)),.string (bigS (sz n)),.bool (ng n),.int .u64 (lowN m),.string (bigS m)] rfl) Tryz.underlying60 rfl info_F3 rfl ⟨rfl,?_⟩
   ·(with_reducible (repeat' (first|(refine VB.new' ?_;exact(by first|omega|(simp;done)|(simp;omega)))|apply VB.put2|apply VB.put3|apply VB.put5|refine VB.drew ?_|refine VB.far ?_ ?_ _|refine VB.alloc ?_ _|exact HRr.out|omega|(simp;done)|(simp;omega))))
   ·(with_reducible (repeat' (first|exact Gr.refl _ _|refine Gr.drew ?_|refine Gr.setCell ?_ ?_ _|refine Gr.alloc ?_ ?_ _|refine Gr.trans ?_ (Gr.mono HGr.out ?_)|omega|(simp;done)|(simp;omega))))
set_option maxRecDepth 20000 in
set_option maxHeartbeats 4000000 in
theorem Node_hi4 {n:Int} {m:Nat} (o:Nat) (w:World) (hS:SdW w) (hT:∀W,Calls Tryz.prog 26 #[.int .i64 (o:Int),.int .i64 4] W (Ret W (.bool true))) (hI:∀W,Calls Tryz.prog 28 #[.int .i64 1,.int .i64 2] W (Ret W (.tuple #[frV n m,.int .i64 0]))):
  Calls Tryz.prog 10 #[.int .i64 (o:Int),.int .i64 4] w (Ret w (.tuple #[.agg #[.int .u64 (lowN (sz n)),.string (bigS (sz n)),.bool (ng n),.int .u64 (lowN m),.string (bigS m),.int .u64 0,.string ⟨#[]⟩,.bool false,.int .u64 0,.string ⟨#[]⟩,.int .u64 (lowN (sz n)),.string (bigS (sz n)),.bool (ng n),.int .u64 (lowN m),.string (bigS m)],.int .i64 0])):=by
 have HT:=Lib.hid hT
 have HI:=Lib.hid hI
 obtain ⟨h0,h1,h2,h3,h4,h5,hl⟩:=hS
 clear hT hI
 go_enter Tryz.func10,Tryz.ntmps10
 go_wp2_with fail
 (refine(HT.out _).mono ?_;rintro e w1 ⟨rfl,hg1⟩;(try (with_reducible replace hg1:=Gr.of_drew hg1));have hsz1:=hg1.size;(try simp at hsz1);have hy1_0:0<w1.heap.size:=(by omega);have hz1_0:w.heap.size<w1.heap.size:=(by omega);have hz1_1:w.heap.size+1<w1.heap.size:=(by omega);obtain ⟨hc1,hf1⟩:=hg1.cells;have HG1:=Lib.hid hg1;clear hg1)
 go_wp2_with fail
 (refine(HI.out _).mono ?_;rintro e w2 ⟨rfl,hg2⟩;(try (with_reducible replace hg2:=Gr.of_drew hg2));have hsz2:=hg2.size;(try simp at hsz2);have hy2_0:0<w2.heap.size:=(by omega);have hz2_0:w.heap.size<w2.heap.size:=(by omega);have hz2_1:w.heap.size+1<w2.heap.size:=(by omega);obtain ⟨hc2,hf2⟩:=hg2.cells;have HG2:=Lib.hid hg2;clear hg2)
 go_wp2
 have HZ:=Lib.hid (show VB (w2.alloc (.cells #[.int .u64 (lowN (sz n)),.string (bigS (sz n)),.bool (ng n),.int .u64 (lowN m),.string (bigS m)] 53)) (w.heap.size+1) [.int .u64 0,.string ⟨#[]⟩,.bool false,.int .u64 0,.string ⟨#[]⟩,.int .u64 0,.string ⟨#[]⟩,.bool false,.int .u64 0,.string ⟨#[]⟩,.int .u64 0,.string ⟨#[]⟩,.bool false,.int .u64 0,.string ⟨#[]⟩]from by(with_reducible (repeat' (first|(refine VB.new' ?_;exact(by first|omega|(simp;done)|(simp;omega)))|apply VB.put2|apply VB.put3|apply VB.put5|refine VB.drew ?_|refine VB.far ?_ ?_ _|refine VB.alloc ?_ _|refine VB.gr ?_ HG1.out ?_|refine VB.gr ?_ HG2.out ?_|omega|(simp;done)|(simp;omega)))))
 have HF:=Lib.hid (show VB (w2.alloc (.cells #[.int .u64 (lowN (sz n)),.string (bigS (sz n)),.bool (ng n),.int .u64 (lowN m),.string (bigS m)] 53)) w2.heap.size [.int .u64 (lowN (sz n)),.string (bigS (sz n)),.bool (ng n),.int .u64 (lowN m),.string (bigS m)]from by(with_reducible (repeat' (first|(refine VB.new' ?_;exact(by first|omega|(simp;done)|(simp;omega)))|apply VB.put2|apply VB.put3|apply VB.put5|refine VB.drew ?_|refine VB.far ?_ ?_ _|refine VB.alloc ?_ _|omega|(simp;done)|(simp;omega)))))
 have HR:=Lib.hid (show VB (w2.alloc (.cells #[.int .u64 (lowN (sz n)),.string (bigS (sz n)),.bool (ng n),.int .u64 (lowN m),.string (bigS m)] 53)) w.heap.size [.int .u64 0,.string ⟨#[]⟩,.bool false,.int .u64 0,.string ⟨#[]⟩,.int .u64 0,.string ⟨#[]⟩,.bool false,.int .u64 0,.string ⟨#[]⟩,.int .u64 0,.string ⟨#[]⟩,.bool false,.int .u64 0,.string ⟨#[]⟩]from by(with_reducible (repeat' (first|(refine VB.new' ?_;exact(by first|omega|(simp;done)|(simp;omega)))|apply VB.put2|apply VB.put3|apply VB.put5|refine VB.drew ?_|refine VB.far ?_ ?_ _|refine VB.alloc ?_ _|refine VB.gr ?_ HG1.out ?_|refine VB.gr ?_ HG2.out ?_|omega|(simp;done)|(simp;omega)))))
 have HG:=Lib.hid (show Gr w.heap.size w (w2.alloc (.cells #[.int .u64 (lowN (sz n)),.string (bigS (sz n)),.bool (ng n),.int .u64 (lowN m),.string (bigS m)] 53))from by(with_reducible (repeat' (first|exact Gr.refl _ _|refine Gr.drew ?_|refine Gr.setCell ?_ ?_ _|refine Gr.alloc ?_ ?_ _|refine Gr.trans ?_ (Gr.mono HG2.out ?_)|refine Gr.trans ?_ (Gr.mono HG1.out ?_)|omega|(simp;done)|(simp;omega)))))
 go_loopw [30] (fun s wr=> ∃j:Nat,s= .int .i64 j∧((j=0∧Hid (VB wr (w.heap.size+1) [.int .u64 0,.string ⟨#[]⟩,.bool false,.int .u64 0,.string ⟨#[]⟩,.int .u64 0,.string ⟨#[]⟩,.bool false,.int .u64 0,.string ⟨#[]⟩,.int .u64 0,.string ⟨#[]⟩,.bool false,.int .u64 0,.string ⟨#[]⟩]))∨(j=1∧Hid (VB wr (w.heap.size+1) [.int .u64 0,.string ⟨#[]⟩,.bool false,.int .u64 0,.string ⟨#[]⟩,.int .u64 0,.string ⟨#[]⟩,.bool false,.int .u64 0,.string ⟨#[]⟩,.int .u64 (lowN (sz n)),.string (bigS (sz n)),.bool (ng n),.int .u64 (lowN m),.string (bigS m)]))∨(j=2∧Hid (VB wr (w.heap.size+1) [.int .u64 (lowN (sz n)),.string (bigS (sz n)),.bool (ng n),.int .u64 (lowN m),.string (bigS m),.int .u64 0,.string ⟨#[]⟩,.bool false,.int .u64 0,.string ⟨#[]⟩,.int .u64 (lowN (sz n)),.string (bigS (sz n)),.bool (ng n),.int .u64 (lowN m),.string (bigS m)])))∧Hid (VB wr w2.heap.size [.int .u64 (lowN (sz n)),.string (bigS (sz n)),.bool (ng n),.int .u64 (lowN m),.string (bigS m)])∧Hid (VB wr w.heap.size [.int .u64 0,.string ⟨#[]⟩,.bool false,.int .u64 0,.string ⟨#[]⟩,.int .u64 0,.string ⟨#[]⟩,.bool false,.int .u64 0,.string ⟨#[]⟩,.int .u64 0,.string ⟨#[]⟩,.bool false,.int .u64 0,.string ⟨#[]⟩])∧Hid (Gr w.heap.size w wr)) (fun s _=>2 - (intOf s).toNat)
 case atStart=>exact⟨0,rfl,.inl ⟨rfl,HZ⟩,HF,HR,HG⟩
 case round=>
  clear HZ HF HR HG
  obtain ⟨j,rfl,hj,HFr,HRr,HGr⟩:=hrel
  have hszr:=HGr.out.size
  have hfl:=HFr.out.lt
  obtain ⟨f0,f1,f2,f3,f4,-⟩:=HFr.out.five
  rcases hj with⟨rfl,HV⟩|⟨rfl,HV⟩|⟨rfl,HV⟩
  ·obtain ⟨cc,cf,cl⟩:=HV.out
   have c0:=cc 0 _ rfl
   have c1:=cc 1 _ rfl
   have c2:=cc 2 _ rfl
   have c3:=cc 3 _ rfl
   have c4:=cc 4 _ rfl
   have c5:=cc 5 _ rfl
   have c6:=cc 6 _ rfl
   have c7:=cc 7 _ rfl
   have c8:=cc 8 _ rfl
   have c9:=cc 9 _ rfl
   have c10:=cc 10 _ rfl
   have c11:=cc 11 _ rfl
   have c12:=cc 12 _ rfl
   have c13:=cc 13 _ rfl
   have c14:=cc 14 _ rfl
   have e0:=cf 0 (by simp)
   have e1:=cf 1 (by simp)
   have e2:=cf 2 (by simp)
   have e3:=cf 3 (by simp)
   have e4:=cf 4 (by simp)
   have e5:=cf 5 (by simp)
   have e6:=cf 6 (by simp)
   have e7:=cf 7 (by simp)
   have e8:=cf 8 (by simp)
   have e9:=cf 9 (by simp)
   have e10:=cf 10 (by simp)
   have e11:=cf 11 (by simp)
   have e12:=cf 12 (by simp)
   have e13:=cf 13 (by simp)
   have e14:=cf 14 (by simp)
   clear cc cf
   simp only [show((0:Nat):Int)=0 from rfl]
   go_wp2_with (refine wpA_index _ rfl 85 _ _ rfl (.agg #[.int .i64 2,.int .i64 0]) (.int .i64 0) (.int .i64 2) rfl rfl (run_idx2 _ _ 0 _ rfl _) ?_)
   go_roundw
   case rel=>exact⟨1,rfl,.inr (.inl ⟨rfl,Lib.hid (VB.part (cs:= [.int .u64 0,.string ⟨#[]⟩,.bool false,.int .u64 0,.string ⟨#[]⟩,.int .u64 0,.string ⟨#[]⟩,.bool false,.int .u64 0,.string ⟨#[]⟩,.int .u64 0,.string ⟨#[]⟩,.bool false,.int .u64 0,.string ⟨#[]⟩]) 10 [.int .u64 (lowN (sz n)),.string (bigS (sz n)),.bool (ng n),.int .u64 (lowN m),.string (bigS m)] (by(with_reducible (repeat' (first|(refine VB.new' ?_;exact(by first|omega|(simp;done)|(simp;omega)))|apply VB.put2|apply VB.put3|apply VB.put5|refine VB.drew ?_|refine VB.far ?_ ?_ _|refine VB.alloc ?_ _|exact HV.out|omega|(simp;done)|(simp;omega))))) rfl (by simp))⟩),Lib.hid (by(with_reducible (repeat' (first|(refine VB.new' ?_;exact(by first|omega|(simp;done)|(simp;omega)))|apply VB.put2|apply VB.put3|apply VB.put5|refine VB.drew ?_|refine VB.far ?_ ?_ _|refine VB.alloc ?_ _|exact HFr.out|omega|(simp;done)|(simp;omega))))),Lib.hid (by(with_reducible (repeat' (first|(refine VB.new' ?_;exact(by first|omega|(simp;done)|(simp;omega)))|apply VB.put2|apply VB.put3|apply VB.put5|refine VB.drew ?_|refine VB.far ?_ ?_ _|refine VB.alloc ?_ _|exact HRr.out|omega|(simp;done)|(simp;omega))))),Lib.hid (by(with_reducible (repeat' (first|exact Gr.refl _ _|refine Gr.drew ?_|refine Gr.setCell ?_ ?_ _|refine Gr.alloc ?_ ?_ _|refine Gr.trans ?_ (Gr.mono HGr.out ?_)|omega|(simp;done)|(simp;omega)))))⟩
   case measure=>simp [intOf]
  ·obtain ⟨cc,cf,cl⟩:=HV.out
   have c0:=cc 0 _ rfl
   have c1:=cc 1 _ rfl
   have c2:=cc 2 _ rfl
   have c3:=cc 3 _ rfl
   have c4:=cc 4 _ rfl
   have c5:=cc 5 _ rfl
   have c6:=cc 6 _ rfl
   have c7:=cc 7 _ rfl
   have c8:=cc 8 _ rfl
   have c9:=cc 9 _ rfl
   have c10:=cc 10 _ rfl
   have c11:=cc 11 _ rfl
   have c12:=cc 12 _ rfl
   have c13:=cc 13 _ rfl
   have c14:=cc 14 _ rfl
   have e0:=cf 0 (by simp)
   have e1:=cf 1 (by simp)
   have e2:=cf 2 (by simp)
   have e3:=cf 3 (by simp)
   have e4:=cf 4 (by simp)
   have e5:=cf 5 (by simp)
   have e6:=cf 6 (by simp)
   have e7:=cf 7 (by simp)
   have e8:=cf 8 (by simp)
   have e9:=cf 9 (by simp)
   have e10:=cf 10 (by simp)
   have e11:=cf 11 (by simp)
   have e12:=cf 12 (by simp)
   have e13:=cf 13 (by simp)
   have e14:=cf 14 (by simp)
   clear cc cf
   simp only [show((1:Nat):Int)=1 from rfl]
   go_wp2_with (refine wpA_index _ rfl 85 _ _ rfl (.agg #[.int .i64 2,.int .i64 0]) (.int .i64 1) (.int .i64 0) rfl rfl (run_idx2 _ _ 1 _ rfl _) ?_)
   go_roundw
   case rel=>exact⟨2,rfl,.inr (.inr ⟨rfl,Lib.hid (VB.part (cs:= [.int .u64 0,.string ⟨#[]⟩,.bool false,.int .u64 0,.string ⟨#[]⟩,.int .u64 0,.string ⟨#[]⟩,.bool false,.int .u64 0,.string ⟨#[]⟩,.int .u64 (lowN (sz n)),.string (bigS (sz n)),.bool (ng n),.int .u64 (lowN m),.string (bigS m)]) 0 [.int .u64 (lowN (sz n)),.string (bigS (sz n)),.bool (ng n),.int .u64 (lowN m),.string (bigS m)] (by(with_reducible (repeat' (first|(refine VB.new' ?_;exact(by first|omega|(simp;done)|(simp;omega)))|apply VB.put2|apply VB.put3|apply VB.put5|refine VB.drew ?_|refine VB.far ?_ ?_ _|refine VB.alloc ?_ _|exact HV.out|omega|(simp;done)|(simp;omega))))) rfl (by simp))⟩),Lib.hid (by(with_reducible (repeat' (first|(refine VB.new' ?_;exact(by first|omega|(simp;done)|(simp;omega)))|apply VB.put2|apply VB.put3|apply VB.put5|refine VB.drew ?_|refine VB.far ?_ ?_ _|refine VB.alloc ?_ _|exact HFr.out|omega|(simp;done)|(simp;omega))))),Lib.hid (by(with_reducible (repeat' (first|(refine VB.new' ?_;exact(by first|omega|(simp;done)|(simp;omega)))|apply VB.put2|apply VB.put3|apply VB.put5|refine VB.drew ?_|refine VB.far ?_ ?_ _|refine VB.alloc ?_ _|exact HRr.out|omega|(simp;done)|(simp;omega))))),Lib.hid (by(with_reducible (repeat' (first|exact Gr.refl _ _|refine Gr.drew ?_|refine Gr.setCell ?_ ?_ _|refine Gr.alloc ?_ ?_ _|refine Gr.trans ?_ (Gr.mono HGr.out ?_)|omega|(simp;done)|(simp;omega)))))⟩
   case measure=>simp [intOf]
  ·obtain ⟨cc,cf,cl⟩:=HV.out
   have c0:=cc 0 _ rfl
   have c1:=cc 1 _ rfl
   have c2:=cc 2 _ rfl
   have c3:=cc 3 _ rfl
   have c4:=cc 4 _ rfl
   have c5:=cc 5 _ rfl
   have c6:=cc 6 _ rfl
   have c7:=cc 7 _ rfl
   have c8:=cc 8 _ rfl
   have c9:=cc 9 _ rfl
   have c10:=cc 10 _ rfl
   have c11:=cc 11 _ rfl
   have c12:=cc 12 _ rfl
   have c13:=cc 13 _ rfl
   have c14:=cc 14 _ rfl
   have e0:=cf 0 (by simp)
   have e1:=cf 1 (by simp)
   have e2:=cf 2 (by simp)
   have e3:=cf 3 (by simp)
   have e4:=cf 4 (by simp)
   have e5:=cf 5 (by simp)
   have e6:=cf 6 (by simp)
   have e7:=cf 7 (by simp)
   have e8:=cf 8 (by simp)
   have e9:=cf 9 (by simp)
   have e10:=cf 10 (by simp)
   have e11:=cf 11 (by simp)
   have e12:=cf 12 (by simp)
   have e13:=cf 13 (by simp)
   have e14:=cf 14 (by simp)
   clear cc cf
   obtain ⟨rc,rf,rl⟩:=HRr.out
   have d0:=rc 0 _ rfl
   have d1:=rc 1 _ rfl
   have d2:=rc 2 _ rfl
   have d3:=rc 3 _ rfl
   have d4:=rc 4 _ rfl
   have d5:=rc 5 _ rfl
   have d6:=rc 6 _ rfl
   have d7:=rc 7 _ rfl
   have d8:=rc 8 _ rfl
   have d9:=rc 9 _ rfl
   have d10:=rc 10 _ rfl
   have d11:=rc 11 _ rfl
   have d12:=rc 12 _ rfl
   have d13:=rc 13 _ rfl
   have d14:=rc 14 _ rfl
   have k0:=rf 0 (by simp)
   have k1:=rf 1 (by simp)
   have k2:=rf 2 (by simp)
   have k3:=rf 3 (by simp)
   have k4:=rf 4 (by simp)
   have k5:=rf 5 (by simp)
   have k6:=rf 6 (by simp)
   have k7:=rf 7 (by simp)
   have k8:=rf 8 (by simp)
   have k9:=rf 9 (by simp)
   have k10:=rf 10 (by simp)
   have k11:=rf 11 (by simp)
   have k12:=rf 12 (by simp)
   have k13:=rf 13 (by simp)
   have k14:=rf 14 (by simp)
   clear rc rf
   simp only [show((2:Nat):Int)=2 from rfl]
   go_wp2
   refine ret_row2 (g:=w.heap.size) Tryz.results10 rfl rfl (VB.set (cs:= [.int .u64 0,.string ⟨#[]⟩,.bool false,.int .u64 0,.string ⟨#[]⟩,.int .u64 0,.string ⟨#[]⟩,.bool false,.int .u64 0,.string ⟨#[]⟩,.int .u64 0,.string ⟨#[]⟩,.bool false,.int .u64 0,.string ⟨#[]⟩]) ?_ [.int .u64 (lowN (sz n)),.string (bigS (sz n)),.bool (ng n),.int .u64 (lowN m),.string (bigS m),.int .u64 0,.string ⟨#[]⟩,.bool false,.int .u64 0,.string ⟨#[]⟩,.int .u64 (lowN (sz n)),.string (bigS (sz n)),.bool (ng n),.int .u64 (lowN m),.string (bigS m)] rfl) Tryz.underlying60 rfl info_F3 rfl ⟨rfl,?_⟩
   ·(with_reducible (repeat' (first|(refine VB.new' ?_;exact(by first|omega|(simp;done)|(simp;omega)))|apply VB.put2|apply VB.put3|apply VB.put5|refine VB.drew ?_|refine VB.far ?_ ?_ _|refine VB.alloc ?_ _|exact HRr.out|omega|(simp;done)|(simp;omega))))
   ·(with_reducible (repeat' (first|exact Gr.refl _ _|refine Gr.drew ?_|refine Gr.setCell ?_ ?_ _|refine Gr.alloc ?_ ?_ _|refine Gr.trans ?_ (Gr.mono HGr.out ?_)|omega|(simp;done)|(simp;omega))))
set_option maxRecDepth 20000 in
set_option maxHeartbeats 4000000 in
theorem Node_hi5 {n:Int} {m:Nat} (o:Nat) (w:World) (hS:SdW w) (hT:∀W,Calls Tryz.prog 26 #[.int .i64 (o:Int),.int .i64 5] W (Ret W (.bool true))) (hI:∀W,Calls Tryz.prog 28 #[.int .i64 1,.int .i64 2] W (Ret W (.tuple #[frV n m,.int .i64 0]))):
  Calls Tryz.prog 10 #[.int .i64 (o:Int),.int .i64 5] w (Ret w (.tuple #[.agg #[.int .u64 (lowN (sz n)),.string (bigS (sz n)),.bool (ng n),.int .u64 (lowN m),.string (bigS m),.int .u64 (lowN (sz n)),.string (bigS (sz n)),.bool (ng n),.int .u64 (lowN m),.string (bigS m),.int .u64 0,.string ⟨#[]⟩,.bool false,.int .u64 0,.string ⟨#[]⟩],.int .i64 0])):=by
 have HT:=Lib.hid hT
 have HI:=Lib.hid hI
 obtain ⟨h0,h1,h2,h3,h4,h5,hl⟩:=hS
 clear hT hI
 go_enter Tryz.func10,Tryz.ntmps10
 go_wp2_with fail
 (refine(HT.out _).mono ?_;rintro e w1 ⟨rfl,hg1⟩;(try (with_reducible replace hg1:=Gr.of_drew hg1));have hsz1:=hg1.size;(try simp at hsz1);have hy1_0:0<w1.heap.size:=(by omega);have hz1_0:w.heap.size<w1.heap.size:=(by omega);have hz1_1:w.heap.size+1<w1.heap.size:=(by omega);obtain ⟨hc1,hf1⟩:=hg1.cells;have HG1:=Lib.hid hg1;clear hg1)
 go_wp2_with fail
 (refine(HI.out _).mono ?_;rintro e w2 ⟨rfl,hg2⟩;(try (with_reducible replace hg2:=Gr.of_drew hg2));have hsz2:=hg2.size;(try simp at hsz2);have hy2_0:0<w2.heap.size:=(by omega);have hz2_0:w.heap.size<w2.heap.size:=(by omega);have hz2_1:w.heap.size+1<w2.heap.size:=(by omega);obtain ⟨hc2,hf2⟩:=hg2.cells;have HG2:=Lib.hid hg2;clear hg2)
 go_wp2
 have HZ:=Lib.hid (show VB (w2.alloc (.cells #[.int .u64 (lowN (sz n)),.string (bigS (sz n)),.bool (ng n),.int .u64 (lowN m),.string (bigS m)] 53)) (w.heap.size+1) [.int .u64 0,.string ⟨#[]⟩,.bool false,.int .u64 0,.string ⟨#[]⟩,.int .u64 0,.string ⟨#[]⟩,.bool false,.int .u64 0,.string ⟨#[]⟩,.int .u64 0,.string ⟨#[]⟩,.bool false,.int .u64 0,.string ⟨#[]⟩]from by(with_reducible (repeat' (first|(refine VB.new' ?_;exact(by first|omega|(simp;done)|(simp;omega)))|apply VB.put2|apply VB.put3|apply VB.put5|refine VB.drew ?_|refine VB.far ?_ ?_ _|refine VB.alloc ?_ _|refine VB.gr ?_ HG1.out ?_|refine VB.gr ?_ HG2.out ?_|omega|(simp;done)|(simp;omega)))))
 have HF:=Lib.hid (show VB (w2.alloc (.cells #[.int .u64 (lowN (sz n)),.string (bigS (sz n)),.bool (ng n),.int .u64 (lowN m),.string (bigS m)] 53)) w2.heap.size [.int .u64 (lowN (sz n)),.string (bigS (sz n)),.bool (ng n),.int .u64 (lowN m),.string (bigS m)]from by(with_reducible (repeat' (first|(refine VB.new' ?_;exact(by first|omega|(simp;done)|(simp;omega)))|apply VB.put2|apply VB.put3|apply VB.put5|refine VB.drew ?_|refine VB.far ?_ ?_ _|refine VB.alloc ?_ _|omega|(simp;done)|(simp;omega)))))
 have HR:=Lib.hid (show VB (w2.alloc (.cells #[.int .u64 (lowN (sz n)),.string (bigS (sz n)),.bool (ng n),.int .u64 (lowN m),.string (bigS m)] 53)) w.heap.size [.int .u64 0,.string ⟨#[]⟩,.bool false,.int .u64 0,.string ⟨#[]⟩,.int .u64 0,.string ⟨#[]⟩,.bool false,.int .u64 0,.string ⟨#[]⟩,.int .u64 0,.string ⟨#[]⟩,.bool false,.int .u64 0,.string ⟨#[]⟩]from by(with_reducible (repeat' (first|(refine VB.new' ?_;exact(by first|omega|(simp;done)|(simp;omega)))|apply VB.put2|apply VB.put3|apply VB.put5|refine VB.drew ?_|refine VB.far ?_ ?_ _|refine VB.alloc ?_ _|refine VB.gr ?_ HG1.out ?_|refine VB.gr ?_ HG2.out ?_|omega|(simp;done)|(simp;omega)))))
 have HG:=Lib.hid (show Gr w.heap.size w (w2.alloc (.cells #[.int .u64 (lowN (sz n)),.string (bigS (sz n)),.bool (ng n),.int .u64 (lowN m),.string (bigS m)] 53))from by(with_reducible (repeat' (first|exact Gr.refl _ _|refine Gr.drew ?_|refine Gr.setCell ?_ ?_ _|refine Gr.alloc ?_ ?_ _|refine Gr.trans ?_ (Gr.mono HG2.out ?_)|refine Gr.trans ?_ (Gr.mono HG1.out ?_)|omega|(simp;done)|(simp;omega)))))
 go_loopw [30] (fun s wr=> ∃j:Nat,s= .int .i64 j∧((j=0∧Hid (VB wr (w.heap.size+1) [.int .u64 0,.string ⟨#[]⟩,.bool false,.int .u64 0,.string ⟨#[]⟩,.int .u64 0,.string ⟨#[]⟩,.bool false,.int .u64 0,.string ⟨#[]⟩,.int .u64 0,.string ⟨#[]⟩,.bool false,.int .u64 0,.string ⟨#[]⟩]))∨(j=1∧Hid (VB wr (w.heap.size+1) [.int .u64 (lowN (sz n)),.string (bigS (sz n)),.bool (ng n),.int .u64 (lowN m),.string (bigS m),.int .u64 0,.string ⟨#[]⟩,.bool false,.int .u64 0,.string ⟨#[]⟩,.int .u64 0,.string ⟨#[]⟩,.bool false,.int .u64 0,.string ⟨#[]⟩]))∨(j=2∧Hid (VB wr (w.heap.size+1) [.int .u64 (lowN (sz n)),.string (bigS (sz n)),.bool (ng n),.int .u64 (lowN m),.string (bigS m),.int .u64 (lowN (sz n)),.string (bigS (sz n)),.bool (ng n),.int .u64 (lowN m),.string (bigS m),.int .u64 0,.string ⟨#[]⟩,.bool false,.int .u64 0,.string ⟨#[]⟩])))∧Hid (VB wr w2.heap.size [.int .u64 (lowN (sz n)),.string (bigS (sz n)),.bool (ng n),.int .u64 (lowN m),.string (bigS m)])∧Hid (VB wr w.heap.size [.int .u64 0,.string ⟨#[]⟩,.bool false,.int .u64 0,.string ⟨#[]⟩,.int .u64 0,.string ⟨#[]⟩,.bool false,.int .u64 0,.string ⟨#[]⟩,.int .u64 0,.string ⟨#[]⟩,.bool false,.int .u64 0,.string ⟨#[]⟩])∧Hid (Gr w.heap.size w wr)) (fun s _=>2 - (intOf s).toNat)
 case atStart=>exact⟨0,rfl,.inl ⟨rfl,HZ⟩,HF,HR,HG⟩
 case round=>
  clear HZ HF HR HG
  obtain ⟨j,rfl,hj,HFr,HRr,HGr⟩:=hrel
  have hszr:=HGr.out.size
  have hfl:=HFr.out.lt
  obtain ⟨f0,f1,f2,f3,f4,-⟩:=HFr.out.five
  rcases hj with⟨rfl,HV⟩|⟨rfl,HV⟩|⟨rfl,HV⟩
  ·obtain ⟨cc,cf,cl⟩:=HV.out
   have c0:=cc 0 _ rfl
   have c1:=cc 1 _ rfl
   have c2:=cc 2 _ rfl
   have c3:=cc 3 _ rfl
   have c4:=cc 4 _ rfl
   have c5:=cc 5 _ rfl
   have c6:=cc 6 _ rfl
   have c7:=cc 7 _ rfl
   have c8:=cc 8 _ rfl
   have c9:=cc 9 _ rfl
   have c10:=cc 10 _ rfl
   have c11:=cc 11 _ rfl
   have c12:=cc 12 _ rfl
   have c13:=cc 13 _ rfl
   have c14:=cc 14 _ rfl
   have e0:=cf 0 (by simp)
   have e1:=cf 1 (by simp)
   have e2:=cf 2 (by simp)
   have e3:=cf 3 (by simp)
   have e4:=cf 4 (by simp)
   have e5:=cf 5 (by simp)
   have e6:=cf 6 (by simp)
   have e7:=cf 7 (by simp)
   have e8:=cf 8 (by simp)
   have e9:=cf 9 (by simp)
   have e10:=cf 10 (by simp)
   have e11:=cf 11 (by simp)
   have e12:=cf 12 (by simp)
   have e13:=cf 13 (by simp)
   have e14:=cf 14 (by simp)
   clear cc cf
   simp only [show((0:Nat):Int)=0 from rfl]
   go_wp2_with (refine wpA_index _ rfl 85 _ _ rfl (.agg #[.int .i64 0,.int .i64 1]) (.int .i64 0) (.int .i64 0) rfl rfl (run_idx2 _ _ 0 _ rfl _) ?_)
   go_roundw
   case rel=>exact⟨1,rfl,.inr (.inl ⟨rfl,Lib.hid (VB.part (cs:= [.int .u64 0,.string ⟨#[]⟩,.bool false,.int .u64 0,.string ⟨#[]⟩,.int .u64 0,.string ⟨#[]⟩,.bool false,.int .u64 0,.string ⟨#[]⟩,.int .u64 0,.string ⟨#[]⟩,.bool false,.int .u64 0,.string ⟨#[]⟩]) 0 [.int .u64 (lowN (sz n)),.string (bigS (sz n)),.bool (ng n),.int .u64 (lowN m),.string (bigS m)] (by(with_reducible (repeat' (first|(refine VB.new' ?_;exact(by first|omega|(simp;done)|(simp;omega)))|apply VB.put2|apply VB.put3|apply VB.put5|refine VB.drew ?_|refine VB.far ?_ ?_ _|refine VB.alloc ?_ _|exact HV.out|omega|(simp;done)|(simp;omega))))) rfl (by simp))⟩),Lib.hid (by(with_reducible (repeat' (first|(refine VB.new' ?_;exact(by first|omega|(simp;done)|(simp;omega)))|apply VB.put2|apply VB.put3|apply VB.put5|refine VB.drew ?_|refine VB.far ?_ ?_ _|refine VB.alloc ?_ _|exact HFr.out|omega|(simp;done)|(simp;omega))))),Lib.hid (by(with_reducible (repeat' (first|(refine VB.new' ?_;exact(by first|omega|(simp;done)|(simp;omega)))|apply VB.put2|apply VB.put3|apply VB.put5|refine VB.drew ?_|refine VB.far ?_ ?_ _|refine VB.alloc ?_ _|exact HRr.out|omega|(simp;done)|(simp;omega))))),Lib.hid (by(with_reducible (repeat' (first|exact Gr.refl _ _|refine Gr.drew ?_|refine Gr.setCell ?_ ?_ _|refine Gr.alloc ?_ ?_ _|refine Gr.trans ?_ (Gr.mono HGr.out ?_)|omega|(simp;done)|(simp;omega)))))⟩
   case measure=>simp [intOf]
  ·obtain ⟨cc,cf,cl⟩:=HV.out
   have c0:=cc 0 _ rfl
   have c1:=cc 1 _ rfl
   have c2:=cc 2 _ rfl
   have c3:=cc 3 _ rfl
   have c4:=cc 4 _ rfl
   have c5:=cc 5 _ rfl
   have c6:=cc 6 _ rfl
   have c7:=cc 7 _ rfl
   have c8:=cc 8 _ rfl
   have c9:=cc 9 _ rfl
   have c10:=cc 10 _ rfl
   have c11:=cc 11 _ rfl
   have c12:=cc 12 _ rfl
   have c13:=cc 13 _ rfl
   have c14:=cc 14 _ rfl
   have e0:=cf 0 (by simp)
   have e1:=cf 1 (by simp)
   have e2:=cf 2 (by simp)
   have e3:=cf 3 (by simp)
   have e4:=cf 4 (by simp)
   have e5:=cf 5 (by simp)
   have e6:=cf 6 (by simp)
   have e7:=cf 7 (by simp)
   have e8:=cf 8 (by simp)
   have e9:=cf 9 (by simp)
   have e10:=cf 10 (by simp)
   have e11:=cf 11 (by simp)
   have e12:=cf 12 (by simp)
   have e13:=cf 13 (by simp)
   have e14:=cf 14 (by simp)
   clear cc cf
   simp only [show((1:Nat):Int)=1 from rfl]
   go_wp2_with (refine wpA_index _ rfl 85 _ _ rfl (.agg #[.int .i64 0,.int .i64 1]) (.int .i64 1) (.int .i64 1) rfl rfl (run_idx2 _ _ 1 _ rfl _) ?_)
   go_roundw
   case rel=>exact⟨2,rfl,.inr (.inr ⟨rfl,Lib.hid (VB.part (cs:= [.int .u64 (lowN (sz n)),.string (bigS (sz n)),.bool (ng n),.int .u64 (lowN m),.string (bigS m),.int .u64 0,.string ⟨#[]⟩,.bool false,.int .u64 0,.string ⟨#[]⟩,.int .u64 0,.string ⟨#[]⟩,.bool false,.int .u64 0,.string ⟨#[]⟩]) 5 [.int .u64 (lowN (sz n)),.string (bigS (sz n)),.bool (ng n),.int .u64 (lowN m),.string (bigS m)] (by(with_reducible (repeat' (first|(refine VB.new' ?_;exact(by first|omega|(simp;done)|(simp;omega)))|apply VB.put2|apply VB.put3|apply VB.put5|refine VB.drew ?_|refine VB.far ?_ ?_ _|refine VB.alloc ?_ _|exact HV.out|omega|(simp;done)|(simp;omega))))) rfl (by simp))⟩),Lib.hid (by(with_reducible (repeat' (first|(refine VB.new' ?_;exact(by first|omega|(simp;done)|(simp;omega)))|apply VB.put2|apply VB.put3|apply VB.put5|refine VB.drew ?_|refine VB.far ?_ ?_ _|refine VB.alloc ?_ _|exact HFr.out|omega|(simp;done)|(simp;omega))))),Lib.hid (by(with_reducible (repeat' (first|(refine VB.new' ?_;exact(by first|omega|(simp;done)|(simp;omega)))|apply VB.put2|apply VB.put3|apply VB.put5|refine VB.drew ?_|refine VB.far ?_ ?_ _|refine VB.alloc ?_ _|exact HRr.out|omega|(simp;done)|(simp;omega))))),Lib.hid (by(with_reducible (repeat' (first|exact Gr.refl _ _|refine Gr.drew ?_|refine Gr.setCell ?_ ?_ _|refine Gr.alloc ?_ ?_ _|refine Gr.trans ?_ (Gr.mono HGr.out ?_)|omega|(simp;done)|(simp;omega)))))⟩
   case measure=>simp [intOf]
  ·obtain ⟨cc,cf,cl⟩:=HV.out
   have c0:=cc 0 _ rfl
   have c1:=cc 1 _ rfl
   have c2:=cc 2 _ rfl
   have c3:=cc 3 _ rfl
   have c4:=cc 4 _ rfl
   have c5:=cc 5 _ rfl
   have c6:=cc 6 _ rfl
   have c7:=cc 7 _ rfl
   have c8:=cc 8 _ rfl
   have c9:=cc 9 _ rfl
   have c10:=cc 10 _ rfl
   have c11:=cc 11 _ rfl
   have c12:=cc 12 _ rfl
   have c13:=cc 13 _ rfl
   have c14:=cc 14 _ rfl
   have e0:=cf 0 (by simp)
   have e1:=cf 1 (by simp)
   have e2:=cf 2 (by simp)
   have e3:=cf 3 (by simp)
   have e4:=cf 4 (by simp)
   have e5:=cf 5 (by simp)
   have e6:=cf 6 (by simp)
   have e7:=cf 7 (by simp)
   have e8:=cf 8 (by simp)
   have e9:=cf 9 (by simp)
   have e10:=cf 10 (by simp)
   have e11:=cf 11 (by simp)
   have e12:=cf 12 (by simp)
   have e13:=cf 13 (by simp)
   have e14:=cf 14 (by simp)
   clear cc cf
   obtain ⟨rc,rf,rl⟩:=HRr.out
   have d0:=rc 0 _ rfl
   have d1:=rc 1 _ rfl
   have d2:=rc 2 _ rfl
   have d3:=rc 3 _ rfl
   have d4:=rc 4 _ rfl
   have d5:=rc 5 _ rfl
   have d6:=rc 6 _ rfl
   have d7:=rc 7 _ rfl
   have d8:=rc 8 _ rfl
   have d9:=rc 9 _ rfl
   have d10:=rc 10 _ rfl
   have d11:=rc 11 _ rfl
   have d12:=rc 12 _ rfl
   have d13:=rc 13 _ rfl
   have d14:=rc 14 _ rfl
   have k0:=rf 0 (by simp)
   have k1:=rf 1 (by simp)
   have k2:=rf 2 (by simp)
   have k3:=rf 3 (by simp)
   have k4:=rf 4 (by simp)
   have k5:=rf 5 (by simp)
   have k6:=rf 6 (by simp)
   have k7:=rf 7 (by simp)
   have k8:=rf 8 (by simp)
   have k9:=rf 9 (by simp)
   have k10:=rf 10 (by simp)
   have k11:=rf 11 (by simp)
   have k12:=rf 12 (by simp)
   have k13:=rf 13 (by simp)
   have k14:=rf 14 (by simp)
   clear rc rf
   simp only [show((2:Nat):Int)=2 from rfl]
   go_wp2
   refine ret_row2 (g:=w.heap.size) Tryz.results10 rfl rfl (VB.set (cs:= [.int .u64 0,.string ⟨#[]⟩,.bool false,.int .u64 0,.string ⟨#[]⟩,.int .u64 0,.string ⟨#[]⟩,.bool false,.int .u64 0,.string ⟨#[]⟩,.int .u64 0,.string ⟨#[]⟩,.bool false,.int .u64 0,.string ⟨#[]⟩]) ?_ [.int .u64 (lowN (sz n)),.string (bigS (sz n)),.bool (ng n),.int .u64 (lowN m),.string (bigS m),.int .u64 (lowN (sz n)),.string (bigS (sz n)),.bool (ng n),.int .u64 (lowN m),.string (bigS m),.int .u64 0,.string ⟨#[]⟩,.bool false,.int .u64 0,.string ⟨#[]⟩] rfl) Tryz.underlying60 rfl info_F3 rfl ⟨rfl,?_⟩
   ·(with_reducible (repeat' (first|(refine VB.new' ?_;exact(by first|omega|(simp;done)|(simp;omega)))|apply VB.put2|apply VB.put3|apply VB.put5|refine VB.drew ?_|refine VB.far ?_ ?_ _|refine VB.alloc ?_ _|exact HRr.out|omega|(simp;done)|(simp;omega))))
   ·(with_reducible (repeat' (first|exact Gr.refl _ _|refine Gr.drew ?_|refine Gr.setCell ?_ ?_ _|refine Gr.alloc ?_ ?_ _|refine Gr.trans ?_ (Gr.mono HGr.out ?_)|omega|(simp;done)|(simp;omega))))
end Go.Proofs.YtjijceliboaeaaaGreatDoor
namespace Go.Proofs.YtjijceliboaeaaaGreatDoor
open Go.RowKit Gus Go.Maps
abbrev node3 (a b c:Rat):Value:= .agg #[.int .u64 (lowN (sz a.num)),.string (bigS (sz a.num)),.bool (ng a.num),.int .u64 (lowN (fm a)),.string (bigS (fm a)),.int .u64 (lowN (sz b.num)),.string (bigS (sz b.num)),.bool (ng b.num),.int .u64 (lowN (fm b)),.string (bigS (fm b)),.int .u64 (lowN (sz c.num)),.string (bigS (sz c.num)),.bool (ng c.num),.int .u64 (lowN (fm c)),.string (bigS (fm c))]
abbrev nodeV (l:Rat×Rat×Rat):Value:=node3 l.1 l.2.1 l.2.2
theorem z_low:lowN (sz (0:Rat).num)=0∧bigS (sz (0:Rat).num)=⟨#[]⟩∧ng (0:Rat).num=false∧lowN (fm 0)=0∧bigS (fm 0)=⟨#[]⟩:=by decide+kernel
theorem sh_Node (o q:Nat) (w:World) (ho:o=1∨o=2) (hq:q<3*o) (hS:SdW w):Calls Tryz.prog 10 #[.int .i64 (o:Int),.int .i64 (q:Int)] w (Ret w (.tuple #[nodeV (nodeW q),.int .i64 0])):=by
 have hT:=fun W=>sh_there o q W ho hq
 have hI:=fun W=>fr_Int 1 W (by omega) (by omega)
 have hH:∀W,Calls Tryz.prog 28 #[.int .i64 1,.int .i64 2] W (Ret W (.tuple #[fracV (1 / 2),.int .i64 0])):=fun W=>by
  have h:=fr_Of 1 2 W (by omega) (by omega) (by omega) (by omega) (by omega)
  have h12:(1 / 2:Rat)=((1:Int):Rat) / ((2:Int):Rat):=by decide+kernel
  rw [←h12]at h
  exact h
 obtain ⟨e1,e2,e3,e4,e5⟩:=z_low
 rcases(show q=0∨q=1∨q=2∨q=3∨q=4∨q=5 by omega)with rfl|rfl|rfl|rfl|rfl|rfl
 ·have h:=Node_lo0 o w hT hI
  unfold nodeV nodeW node3
  simp only [e1,e2,e3,e4,e5]
  exact h
 ·have h:=Node_lo1 o w hT hI
  unfold nodeV nodeW node3
  simp only [e1,e2,e3,e4,e5]
  exact h
 ·have h:=Node_lo2 o w hT hI
  unfold nodeV nodeW node3
  simp only [e1,e2,e3,e4,e5]
  exact h
 ·have h:=Node_hi3 o w hS hT hH
  unfold nodeV nodeW node3
  simp only [e1,e2,e3,e4,e5]
  exact h
 ·have h:=Node_hi4 o w hS hT hH
  unfold nodeV nodeW node3
  simp only [e1,e2,e3,e4,e5]
  exact h
 ·have h:=Node_hi5 o w hS hT hH
  unfold nodeV nodeW node3
  simp only [e1,e2,e3,e4,e5]
  exact h
theorem pt_Add (a b:Pt) (w:World) (ha:hp a≤1000000000) (hb:hp b≤1000000000):Calls Tryz.prog 29 #[pV a,pV b] w (Ret w (pV (a.add b))):=by
 unfold hp at ha hb
 exact PtAdd_raw (fun w=>bothA_raw (fun w=>fr_Add a.x b.x w (by omega) (by omega)) (fun w=>fr_Add a.y b.y w (by omega) (by omega)) w) w
theorem pt_Scale (a:Pt) (c:Rat) (w:World) (ha:hp a≤1000000000) (hc:hw c≤1000000000):Calls Tryz.prog 30 #[pV a,fracV c] w (Ret w (pV (a.sc c))):=by
 unfold hp at ha
 exact PtScale_raw (fun g w hv=>bothS_raw g w (fun W hW=>Scale1_raw g W (Nat.lt_of_lt_of_le hv.lt hW.size) (hv.gr hW hv.lt) (fun w=>fr_Mul a.x c w (by omega) (by omega))) (fun W hW=>Scale1_raw g W (Nat.lt_of_lt_of_le hv.lt hW.size) (hv.gr hW hv.lt) (fun w=>fr_Mul a.y c w (by omega) (by omega)))) w
theorem hp_add (a b:Pt):hp (a.add b)≤hp a+hp b+1:=by
 have h1:=hw_add a.x b.x
 have h2:=hw_add a.y b.y
 unfold hp Pt.add
 simp only
 omega
theorem hp_sc (a:Pt) (c:Rat):hp (a.sc c)≤hp a+hw c:=by
 have h1:=hw_mul a.x c
 have h2:=hw_mul a.y c
 unfold hp Pt.sc
 simp only
 omega
theorem hw_node (q:Nat):hw (nodeW q).1≤10∧hw (nodeW q).2.1≤10∧hw (nodeW q).2.2≤10:=by
 have h0:hw (0:Rat)≤10:=by decide+kernel
 have h1:hw (1:Rat)≤10:=by decide+kernel
 have h2:hw (1 / 2:Rat)≤10:=by decide+kernel
 unfold nodeW
 split<;>exact⟨by assumption,by assumption,by assumption⟩
set_option maxRecDepth 20000 in
set_option maxHeartbeats 8000000 in
theorem At_raw (a b c p q r s t:Pt) (l0 l1 l2:Rat) (w:World) (h1:∀W,Calls Tryz.prog 30 #[pV a,fracV l0] W (Ret W (pV p))) (h2:∀W,Calls Tryz.prog 30 #[pV b,fracV l1] W (Ret W (pV q))) (h3:∀W,Calls Tryz.prog 29 #[pV p,pV q] W (Ret W (pV s))) (h4:∀W,Calls Tryz.prog 30 #[pV c,fracV l2] W (Ret W (pV r))) (h5:∀W,Calls Tryz.prog 29 #[pV s,pV r] W (Ret W (pV t))):
  Calls Tryz.prog 11 #[pV a,pV b,pV c,node3 l0 l1 l2] w (Ret w (pV t)):=by
 have H1:=Lib.hid h1
 have H2:=Lib.hid h2
 have H3:=Lib.hid h3
 have H4:=Lib.hid h4
 have H5:=Lib.hid h5
 clear h1 h2 h3 h4 h5
 go_enter Tryz.func11,Tryz.ntmps11
 go_upto_region 1 with fail
 refine wp_region_held_drew (S:=(fun w'=>w'.cell? ⟨w.heap.size,0,none⟩=some (.int .u64 (lowN (sz a.x.num)))∧w'.cell? ⟨w.heap.size,1,none⟩=some (.string (bigS (sz a.x.num)))∧w'.cell? ⟨w.heap.size,2,none⟩=some (.bool (ng a.x.num))∧w'.cell? ⟨w.heap.size,3,none⟩=some (.int .u64 (lowN (fm a.x)))∧w'.cell? ⟨w.heap.size,4,none⟩=some (.string (bigS (fm a.x)))∧w'.cell? ⟨w.heap.size,5,none⟩=some (.int .u64 (lowN (sz a.y.num)))∧w'.cell? ⟨w.heap.size,6,none⟩=some (.string (bigS (sz a.y.num)))∧w'.cell? ⟨w.heap.size,7,none⟩=some (.bool (ng a.y.num))∧w'.cell? ⟨w.heap.size,8,none⟩=some (.int .u64 (lowN (fm a.y)))∧w'.cell? ⟨w.heap.size,9,none⟩=some (.string (bigS (fm a.y)))∧w'.cell? ⟨w.heap.size+1,0,none⟩=some (.int .u64 (lowN (sz b.x.num)))∧w'.cell? ⟨w.heap.size+1,1,none⟩=some (.string (bigS (sz b.x.num)))∧w'.cell? ⟨w.heap.size+1,2,none⟩=some (.bool (ng b.x.num))∧w'.cell? ⟨w.heap.size+1,3,none⟩=some (.int .u64 (lowN (fm b.x)))∧w'.cell? ⟨w.heap.size+1,4,none⟩=some (.string (bigS (fm b.x)))∧w'.cell? ⟨w.heap.size+1,5,none⟩=some (.int .u64 (lowN (sz b.y.num)))∧w'.cell? ⟨w.heap.size+1,6,none⟩=some (.string (bigS (sz b.y.num)))∧w'.cell? ⟨w.heap.size+1,7,none⟩=some (.bool (ng b.y.num))∧w'.cell? ⟨w.heap.size+1,8,none⟩=some (.int .u64 (lowN (fm b.y)))∧w'.cell? ⟨w.heap.size+1,9,none⟩=some (.string (bigS (fm b.y)))∧w'.cell? ⟨w.heap.size+1+1,0,none⟩=some (.int .u64 (lowN (sz c.x.num)))∧w'.cell? ⟨w.heap.size+1+1,1,none⟩=some (.string (bigS (sz c.x.num)))∧w'.cell? ⟨w.heap.size+1+1,2,none⟩=some (.bool (ng c.x.num))∧w'.cell? ⟨w.heap.size+1+1,3,none⟩=some (.int .u64 (lowN (fm c.x)))∧w'.cell? ⟨w.heap.size+1+1,4,none⟩=some (.string (bigS (fm c.x)))∧w'.cell? ⟨w.heap.size+1+1,5,none⟩=some (.int .u64 (lowN (sz c.y.num)))∧w'.cell? ⟨w.heap.size+1+1,6,none⟩=some (.string (bigS (sz c.y.num)))∧w'.cell? ⟨w.heap.size+1+1,7,none⟩=some (.bool (ng c.y.num))∧w'.cell? ⟨w.heap.size+1+1,8,none⟩=some (.int .u64 (lowN (fm c.y)))∧w'.cell? ⟨w.heap.size+1+1,9,none⟩=some (.string (bigS (fm c.y)))∧w'.cell? ⟨w.heap.size+1+1+1,0,none⟩=some (.int .u64 (lowN (sz l0.num)))∧w'.cell? ⟨w.heap.size+1+1+1,1,none⟩=some (.string (bigS (sz l0.num)))∧w'.cell? ⟨w.heap.size+1+1+1,2,none⟩=some (.bool (ng l0.num))∧w'.cell? ⟨w.heap.size+1+1+1,3,none⟩=some (.int .u64 (lowN (fm l0)))∧w'.cell? ⟨w.heap.size+1+1+1,4,none⟩=some (.string (bigS (fm l0)))∧w'.cell? ⟨w.heap.size+1+1+1,5,none⟩=some (.int .u64 (lowN (sz l1.num)))∧w'.cell? ⟨w.heap.size+1+1+1,6,none⟩=some (.string (bigS (sz l1.num)))∧w'.cell? ⟨w.heap.size+1+1+1,7,none⟩=some (.bool (ng l1.num))∧w'.cell? ⟨w.heap.size+1+1+1,8,none⟩=some (.int .u64 (lowN (fm l1)))∧w'.cell? ⟨w.heap.size+1+1+1,9,none⟩=some (.string (bigS (fm l1)))∧w'.cell? ⟨w.heap.size+1+1+1,10,none⟩=some (.int .u64 (lowN (sz l2.num)))∧w'.cell? ⟨w.heap.size+1+1+1,11,none⟩=some (.string (bigS (sz l2.num)))∧w'.cell? ⟨w.heap.size+1+1+1,12,none⟩=some (.bool (ng l2.num))∧w'.cell? ⟨w.heap.size+1+1+1,13,none⟩=some (.int .u64 (lowN (fm l2)))∧w'.cell? ⟨w.heap.size+1+1+1,14,none⟩=some (.string (bigS (fm l2))))) (by kernel_rfl) ?_ (fun hHeld=>?_)
 ·simp [go_sem, *]
 refine tk 0 (some 9) (.agg #[.int .u64 (lowN (sz a.x.num)),.string (bigS (sz a.x.num)),.bool (ng a.x.num),.int .u64 (lowN (fm a.x)),.string (bigS (fm a.x)),.int .u64 (lowN (sz a.y.num)),.string (bigS (sz a.y.num)),.bool (ng a.y.num),.int .u64 (lowN (fm a.y)),.string (bigS (fm a.y))]) ?_
 try simp only [pS]
 refine tk 1 (some 10) (.pointer (some ⟨w.heap.size+1+1+1,0,none⟩)) ?_
 try simp only [pS]
 refine tk 2 (some 11) (.agg #[.int .u64 (lowN (sz l0.num)),.string (bigS (sz l0.num)),.bool (ng l0.num),.int .u64 (lowN (fm l0)),.string (bigS (fm l0))]) ?_
 try simp only [pS]
 refine tk 4 (some 13) (.agg #[.int .u64 (lowN (sz b.x.num)),.string (bigS (sz b.x.num)),.bool (ng b.x.num),.int .u64 (lowN (fm b.x)),.string (bigS (fm b.x)),.int .u64 (lowN (sz b.y.num)),.string (bigS (sz b.y.num)),.bool (ng b.y.num),.int .u64 (lowN (fm b.y)),.string (bigS (fm b.y))]) ?_
 try simp only [pS]
 refine tk 5 (some 14) (.pointer (some ⟨w.heap.size+1+1+1,5,none⟩)) ?_
 try simp only [pS]
 refine tk 6 (some 15) (.agg #[.int .u64 (lowN (sz l1.num)),.string (bigS (sz l1.num)),.bool (ng l1.num),.int .u64 (lowN (fm l1)),.string (bigS (fm l1))]) ?_
 try simp only [pS]
 refine tk 9 (some 18) (.agg #[.int .u64 (lowN (sz c.x.num)),.string (bigS (sz c.x.num)),.bool (ng c.x.num),.int .u64 (lowN (fm c.x)),.string (bigS (fm c.x)),.int .u64 (lowN (sz c.y.num)),.string (bigS (sz c.y.num)),.bool (ng c.y.num),.int .u64 (lowN (fm c.y)),.string (bigS (fm c.y))]) ?_
 try simp only [pS]
 refine tk 10 (some 19) (.pointer (some ⟨w.heap.size+1+1+1,10,none⟩)) ?_
 try simp only [pS]
 refine tk 11 (some 20) (.agg #[.int .u64 (lowN (sz l2.num)),.string (bigS (sz l2.num)),.bool (ng l2.num),.int .u64 (lowN (fm l2)),.string (bigS (fm l2))]) ?_
 try simp only [pS]
 refine rd 3 (fun K hK=>?_)
 go_simp
 (refine(H1.out _).mono ?_;rintro e w1 ⟨rfl,hg1⟩;(try (with_reducible replace hg1:=Gr.of_drew hg1));have hsz1:=hg1.size;(try simp at hsz1);have hz1_0:w.heap.size<w1.heap.size:=(by omega);have hz1_1:w.heap.size+1<w1.heap.size:=(by omega);have hz1_2:w.heap.size+1+1<w1.heap.size:=(by omega);have hz1_3:w.heap.size+1+1+1<w1.heap.size:=(by omega);have hz1_4:w.heap.size+1+1+1+1<w1.heap.size:=(by omega);obtain ⟨hc1,hf1⟩:=hg1.cells;have HG1:=Lib.hid hg1;clear hg1)
 (try dsimp only)
 refine hK.out _ _ ?_ (fun hQ1=>?_)
 ·(first|exact trivial|((try dsimp only);simp [go_sem, *]))
 clear hK K hHeld
 try simp only [pS]
 refine rd 7 (fun K hK=>?_)
 go_simp
 (refine(H2.out _).mono ?_;rintro e w2 ⟨rfl,hg2⟩;(try (with_reducible replace hg2:=Gr.of_drew hg2));have hsz2:=hg2.size;(try simp at hsz2);have hz2_0:w.heap.size<w2.heap.size:=(by omega);have hz2_1:w.heap.size+1<w2.heap.size:=(by omega);have hz2_2:w.heap.size+1+1<w2.heap.size:=(by omega);have hz2_3:w.heap.size+1+1+1<w2.heap.size:=(by omega);have hz2_4:w.heap.size+1+1+1+1<w2.heap.size:=(by omega);obtain ⟨hc2,hf2⟩:=hg2.cells;have HG2:=Lib.hid hg2;clear hg2)
 (try dsimp only)
 refine hK.out _ _ ?_ (fun hQ2=>?_)
 ·(first|exact trivial|((try dsimp only);simp [go_sem, *]))
 clear hK K hQ1
 try simp only [pS]
 refine rd 8 (fun K hK=>?_)
 go_simp
 (refine(H3.out _).mono ?_;rintro e w3 ⟨rfl,hg3⟩;(try (with_reducible replace hg3:=Gr.of_drew hg3));have hsz3:=hg3.size;(try simp at hsz3);have hz3_0:w.heap.size<w3.heap.size:=(by omega);have hz3_1:w.heap.size+1<w3.heap.size:=(by omega);have hz3_2:w.heap.size+1+1<w3.heap.size:=(by omega);have hz3_3:w.heap.size+1+1+1<w3.heap.size:=(by omega);have hz3_4:w.heap.size+1+1+1+1<w3.heap.size:=(by omega);obtain ⟨hc3,hf3⟩:=hg3.cells;have HG3:=Lib.hid hg3;clear hg3)
 (try dsimp only)
 refine hK.out _ _ ?_ (fun hQ3=>?_)
 ·(first|exact trivial|((try dsimp only);simp [go_sem, *]))
 clear hK K hQ2
 try simp only [pS]
 refine rd 12 (fun K hK=>?_)
 go_simp
 (refine(H4.out _).mono ?_;rintro e w4 ⟨rfl,hg4⟩;(try (with_reducible replace hg4:=Gr.of_drew hg4));have hsz4:=hg4.size;(try simp at hsz4);have hz4_0:w.heap.size<w4.heap.size:=(by omega);have hz4_1:w.heap.size+1<w4.heap.size:=(by omega);have hz4_2:w.heap.size+1+1<w4.heap.size:=(by omega);have hz4_3:w.heap.size+1+1+1<w4.heap.size:=(by omega);have hz4_4:w.heap.size+1+1+1+1<w4.heap.size:=(by omega);obtain ⟨hc4,hf4⟩:=hg4.cells;have HG4:=Lib.hid hg4;clear hg4)
 (try dsimp only)
 refine hK.out _ _ ?_ (fun hQ4=>?_)
 ·(first|exact trivial|((try dsimp only);simp [go_sem, *]))
 clear hK K hQ3
 try simp only [pS]
 refine rd 13 (fun K hK=>?_)
 go_simp
 (refine(H5.out _).mono ?_;rintro e w5 ⟨rfl,hg5⟩;(try (with_reducible replace hg5:=Gr.of_drew hg5));have hsz5:=hg5.size;(try simp at hsz5);have hz5_0:w.heap.size<w5.heap.size:=(by omega);have hz5_1:w.heap.size+1<w5.heap.size:=(by omega);have hz5_2:w.heap.size+1+1<w5.heap.size:=(by omega);have hz5_3:w.heap.size+1+1+1<w5.heap.size:=(by omega);have hz5_4:w.heap.size+1+1+1+1<w5.heap.size:=(by omega);obtain ⟨hc5,hf5⟩:=hg5.cells;have HG5:=Lib.hid hg5;clear hg5)
 (try dsimp only)
 refine hK.out _ _ ?_ (fun hQ5=>?_)
 ·(first|exact trivial|((try dsimp only);simp [go_sem, *]))
 clear hK K hQ4
 try simp only [pS]
 refine wpAnyH_ready (rs:= [14]) (by kernel_rfl) (by simp) ?_
 refine AllReadyH.cons (o:=⟨none,_,_,_,_,_⟩) rfl (fun K hK=>?_) AllReadyH.nil
 rw [if_pos (by rfl)]
 refine wp_store_mid 55 _ _ rfl (w.heap.size+1+1+1+1) 0 (List.toArray [.int .u64 (lowN (sz t.x.num)),.string (bigS (sz t.x.num)),.bool (ng t.x.num),.int .u64 (lowN (fm t.x)),.string (bigS (fm t.x)),.int .u64 (lowN (sz t.y.num)),.string (bigS (sz t.y.num)),.bool (ng t.y.num),.int .u64 (lowN (fm t.y)),.string (bigS (fm t.y))]) rfl rfl (VB.there (cs:= [.int .u64 0,.string ⟨#[]⟩,.bool false,.int .u64 0,.string ⟨#[]⟩,.int .u64 0,.string ⟨#[]⟩,.bool false,.int .u64 0,.string ⟨#[]⟩]) ?_) info_Point (by first|rfl|simp [Value.oneCell']) ?_
 ·(with_reducible (repeat' (first|(refine VB.new' ?_;exact(by first|omega|(simp;done)|(simp;omega)))|apply VB.put2|apply VB.put3|apply VB.put5|refine VB.drew ?_|refine VB.far ?_ ?_ _|refine VB.alloc ?_ _|refine VB.gr ?_ HG5.out ?_|refine VB.gr ?_ HG4.out ?_|refine VB.gr ?_ HG3.out ?_|refine VB.gr ?_ HG2.out ?_|refine VB.gr ?_ HG1.out ?_|omega|(simp;done)|(simp;omega))))
 simp only [pS]
 refine hK.out _ _ ?_ (fun hQ6=>?_)
 ·have hh:=hQ5;(try dsimp only at hh ⊢);simp only [cell_sets_ne (show w.heap.size≠w.heap.size+1+1+1+1 by omega),cell_sets_ne (show w.heap.size+1≠w.heap.size+1+1+1+1 by omega),cell_sets_ne (show w.heap.size+1+1≠w.heap.size+1+1+1+1 by omega),cell_sets_ne (show w.heap.size+1+1+1≠w.heap.size+1+1+1+1 by omega)];exact hh
 clear hK K hQ5
 refine wpAnyH_done (by kernel_rfl) ?_ _
 go_wp2
 refine ret_row (g:=w.heap.size+1+1+1+1) Tryz.results11 rfl (VB.set (cs:= [.int .u64 0,.string ⟨#[]⟩,.bool false,.int .u64 0,.string ⟨#[]⟩,.int .u64 0,.string ⟨#[]⟩,.bool false,.int .u64 0,.string ⟨#[]⟩]) ?_ (pC t) rfl) Tryz.underlying55 rfl info_Point rfl ⟨rfl,?_⟩
 ·(with_reducible (repeat' (first|(refine VB.new' ?_;exact(by first|omega|(simp;done)|(simp;omega)))|apply VB.put2|apply VB.put3|apply VB.put5|refine VB.drew ?_|refine VB.far ?_ ?_ _|refine VB.alloc ?_ _|refine VB.gr ?_ HG5.out ?_|refine VB.gr ?_ HG4.out ?_|refine VB.gr ?_ HG3.out ?_|refine VB.gr ?_ HG2.out ?_|refine VB.gr ?_ HG1.out ?_|omega|(simp;done)|(simp;omega))))
 ·exact Gr.sets (by omega) _ _ (by(with_reducible (repeat' (first|exact Gr.refl _ _|refine Gr.drew ?_|refine Gr.setCell ?_ ?_ _|refine Gr.alloc ?_ ?_ _|refine Gr.trans ?_ (Gr.mono HG5.out ?_)|refine Gr.trans ?_ (Gr.mono HG4.out ?_)|refine Gr.trans ?_ (Gr.mono HG3.out ?_)|refine Gr.trans ?_ (Gr.mono HG2.out ?_)|refine Gr.trans ?_ (Gr.mono HG1.out ?_)|omega|(simp;done)|(simp;omega)))))
theorem tr_At (a b c:Pt) (q:Nat) (w:World) (ha:hp a≤1000000) (hb:hp b≤1000000) (hc:hp c≤1000000):Calls Tryz.prog 11 #[pV a,pV b,pV c,nodeV (nodeW q)] w (Ret w (pV (atP a b c (nodeW q)))):=by
 obtain ⟨k1,k2,k3⟩:=hw_node q
 have s1:=hp_sc a (nodeW q).1
 have s2:=hp_sc b (nodeW q).2.1
 have s3:=hp_sc c (nodeW q).2.2
 have s4:=hp_add (a.sc (nodeW q).1) (b.sc (nodeW q).2.1)
 exact At_raw a b c _ _ _ _ _ _ _ _ w (fun W=>pt_Scale a _ W (by omega) (by omega)) (fun W=>pt_Scale b _ W (by omega) (by omega)) (fun W=>pt_Add _ _ W (by omega) (by omega)) (fun W=>pt_Scale c _ W (by omega) (by omega)) (fun W=>pt_Add _ _ W (by omega) (by omega))
end Go.Proofs.YtjijceliboaeaaaGreatDoor
