/-
  Part 25 of the proof: GridC.
-/
import Derived.Test.YtjijceliboaeaaaGreatDoorJ19
import Derived.Test.YtjijceliboaeaaaGreatDoorJ21
import Derived.Test.YtjijceliboaeaaaGreatDoorJ23
import Derived.Test.YtjijceliboaeaaaGreatDoorJ24
import Derived.Test.YtjijceliboaeaaaGreatDoorJ22
set_option linter.unusedSimpArgs false
set_option linter.unusedVariables false
namespace Go.Proofs.YtjijceliboaeaaaGreatDoor
open Go.RowKit Gus Go.Maps
def triOf (P:List P2) (t:T2):Tri:=(P.idxOf t.1,P.idxOf t.2.1,P.idxOf t.2.2)
def meshOf (k:K4) (d:Nat) (P:List P2) (L:List T2) (sd:List Tri):Msh:=⟨P.map (ptM k d),L.map (triOf P),sd⟩
structure Net (P:List P2) (L:List T2):Prop where
 nd:P.Nodup
 pair:L.Pairwise fun t u=>okB t u=true
 pos:∀t∈L,posB t=true
 mem:∀q,q∈P↔∃t∈L,hasP t q=true
 low:∀q∈P,q.1≤60∧q.2≤60
 one:L≠ []
 few:L.length≤36
 fewP:P.length≤108
theorem hasP_self (t:T2):hasP t t.1=true∧hasP t t.2.1=true∧hasP t t.2.2=true:=by simp [hasP]
theorem Net.at {P:List P2} {L:List T2} (h:Net P L) {t:T2} (ht:t∈L):t.1∈P∧t.2.1∈P∧t.2.2∈P:=
 ⟨(h.mem _).2 ⟨t,ht,(hasP_self t).1⟩,(h.mem _).2 ⟨t,ht,(hasP_self t).2.1⟩,(h.mem _).2 ⟨t,ht,(hasP_self t).2.2⟩⟩
theorem idx_get {P:List P2} {p:P2} (h:p∈P):P[P.idxOf p]? =some p:=by
 have h1:=List.idxOf_lt_length_of_mem h
 rw [List.getElem?_eq_getElem h1,List.getElem_idxOf h1]
theorem idx_inj {P:List P2} {p q:P2} (hp:p∈P) (hq:q∈P) (h:P.idxOf p=P.idxOf q):p=q:=by
 have h1:=idx_get hp
 rw [h,idx_get hq]at h1
 exact(Option.some.inj h1).symm
theorem idx_of {P:List P2} (hn:P.Nodup) {i:Nat} {p:P2} (h:P[i]? =some p):P.idxOf p=i:=by
 obtain ⟨hi,rfl⟩:=List.getElem?_eq_some_iff.1 h
 exact hn.idxOf_getElem i hi
theorem pos_ne {t:T2} (h:posB t=true):t.1≠t.2.1∧t.2.1≠t.2.2∧t.2.2≠t.1:=by
 unfold posB at h
 rw [decide_eq_true_eq]at h
 refine⟨fun e=>?_,fun e=>?_,fun e=>?_⟩
 ·rw [e]at h;simp [cross2]at h
 ·rw [←e]at h;unfold cross2 at h;rw [Int.mul_comm]at h;omega
 ·rw [e]at h;simp [cross2]at h
theorem Net.goodT {P:List P2} {L:List T2} (h:Net P L) {t:T2} (ht:t∈L):goodT P.length (triOf P t):=by
 obtain ⟨h1,h2,h3⟩:=h.at ht
 obtain ⟨e1,e2,e3⟩:=pos_ne (h.pos t ht)
 exact⟨List.idxOf_lt_length_of_mem h1,List.idxOf_lt_length_of_mem h2,List.idxOf_lt_length_of_mem h3,fun e=>e1 (idx_inj h1 h2 e),fun e=>e2 (idx_inj h2 h3 e),fun e=>e3 (idx_inj h3 h1 e)⟩
theorem map_get {P:List P2} {k:K4} {d:Nat} {p:P2} (h:p∈P):(P.map (ptM k d))[P.idxOf p]? =some (ptM k d p):=by rw [List.getElem?_map,idx_get h];rfl
theorem sgn_zero {n:Int}:sgnI n=0↔n=0:=by unfold sgnI;split<;>(try split)<;>omega
theorem ptM_inj {k:K4} {d:Nat} (hk:0<det4 k) (hd:0<d) {p q:P2} (h:ptM k d p=ptM k d q):p=q:=by
 have key:∀r,cross2 p q r=0:=fun r=>by
  have h1:=turn_pt hk hd p q r
  have h2:=turn_pt hk hd q q r
  rw [h,h2]at h1
  have h3:cross2 q q r=0:=by simp [cross2]
  rw [h3]at h1
  exact sgn_zero.1 (h1.symm.trans (sgn_zero.2 rfl))
 have a:=key (p.1+1,p.2)
 have b:=key (p.1,p.2+1)
 unfold cross2 at a b
 simp at a b
 obtain ⟨x,y⟩:=p
 obtain ⟨u,v⟩:=q
 simp only [Prod.mk.injEq]at a b ⊢
 omega
theorem hw_qQ' (n:Int) (d:Nat) (h1: -9223372036854775808≤n) (h2:n≤9223372036854775807) (hd:d<4294967296):hw (qQ n d)≤4:=by
 unfold qQ
 have h0:(((if d=0 then 1 else d:Nat):Int):Rat).num≠0:=by
  show((if d=0 then 1 else d:Nat):Int)≠0
  split<;>omega
 rw [Rat.div_def]
 have a:=hw_mul (n:Rat) (((if d=0 then 1 else d:Nat):Int):Rat)⁻¹
 have b:=hw_inv _ h0
 have c:=hw_int n h1 h2
 have e:=hw_int ((if d=0 then 1 else d:Nat):Int) (by split<;>omega) (by split<;>omega)
 omega
def smallK (k:K4):Prop:=k.1.natAbs≤3∧k.2.1.natAbs≤3∧k.2.2.1.natAbs≤3∧k.2.2.2.natAbs≤3
theorem lin_bound {a b:Int} {x y:Nat} (ha:a.natAbs≤3) (hb:b.natAbs≤3) (hx:x≤60) (hy:y≤60): -360≤a*x+b*y∧a*x+b*y≤360:=by
 have h1:(a*(x:Int)).natAbs≤3*60:=by rw [Int.natAbs_mul];exact Nat.mul_le_mul ha (by simpa using hx)
 have h2:(b*(y:Int)).natAbs≤3*60:=by rw [Int.natAbs_mul];exact Nat.mul_le_mul hb (by simpa using hy)
 omega
theorem hp_pt {k:K4} {d:Nat} (hk:smallK k) (hd:d<4294967296) {p:P2} (hp':p.1≤60∧p.2≤60):hp (ptM k d p)≤4:=by
 have h1:=lin_bound hk.1 hk.2.1 hp'.1 hp'.2
 have h2:=lin_bound hk.2.2.1 hk.2.2.2 hp'.1 hp'.2
 have a:=hw_qQ' (k.1*p.1+k.2.1*p.2) d (by omega) (by omega) hd
 have b:=hw_qQ' (k.2.2.1*p.1+k.2.2.2*p.2) d (by omega) (by omega) hd
 unfold hp ptM
 simp only
 omega
theorem used_at {N:Nat} {l:List Tri} {i:Nat} (hi:i<N):∀n,(usedS N l n)[i]? =some ((l.take n).any fun t=>has3 t i)
 | 0=>by simp [usedS,hi]
 | n+1=>by
  have ih:=used_at (l:=l) hi n
  have hlen:=usedS_len N l n
  rcases ht:l[n]? with _|t
  ·have hle:l.length≤n:=List.getElem?_eq_none_iff.1 ht
   have e1:usedS N l (n+1)=usedS N l n:=by simp [usedS,ht]
   rw [e1,ih,List.take_of_length_le hle,List.take_of_length_le (by omega)]
  ·rw [usedS_succ ht,List.take_add_one,ht,List.any_append]
   unfold ustep
   simp only [List.getElem?_set,List.length_set,hlen,ih,Option.toList_some,List.any_cons,List.any_nil,Bool.or_false,has3]
   by_cases h1:t.2.2=i
   ·simp [h1,hi]
   ·by_cases h2:t.2.1=i
    ·simp [h1,h2,hi]
    ·by_cases h3:t.1=i
     ·simp [h1,h2,h3,hi]
     ·simp [h1,h2,h3]
theorem used_all {N:Nat} {l:List Tri} (h:∀i,i<N→∃t∈l,has3 t i=true):usedS N l l.length=List.replicate N true:=by
 apply List.ext_getElem?
 intro i
 by_cases hi:i<N
 ·rw [used_at hi,List.take_length,List.getElem?_replicate,if_pos hi]
  obtain ⟨t,ht,h1⟩:=h i hi
  rw [List.any_eq_true.2 ⟨t,ht,h1⟩]
 ·rw [List.getElem?_eq_none_iff.2 (by rw [usedS_len];omega),List.getElem?_eq_none_iff.2 (by simp;omega)]
theorem has3_tri {P:List P2} {t:T2} (h:t.1∈P∧t.2.1∈P∧t.2.2∈P) {q:P2} (hq:q∈P):has3 (triOf P t) (P.idxOf q)=hasP t q:=by
 unfold has3 hasP triOf
 have e:∀p,p∈P→((P.idxOf p == P.idxOf q)=(p == q)):=fun p hp=>by
  by_cases h1:p=q
  ·subst h1;simp
  ·have h2:¬P.idxOf p=P.idxOf q:=fun h3=>h1 (idx_inj hp hq h3)
   rw [beq_eq_false_iff_ne.2 h2,beq_eq_false_iff_ne.2 h1]
 simp only [e _ h.1,e _ h.2.1,e _ h.2.2]
theorem Net.goodA {P:List P2} {L:List T2} (h:Net P L) {k:K4} {d:Nat} (hk:0<det4 k) (hs:smallK k) (hd:0<d) (hd':d<4294967296) {sd:List Tri} (hsd:∀s∈sd,s.1<P.length∧s.2.1<P.length∧s.2.2≤255):GoodA (meshOf k d P L sd):=by
 refine⟨?_,?_,?_,?_⟩
 ·intro t ht
  obtain ⟨u,hu,rfl⟩:=List.mem_map.1 ht
  refine⟨by simpa [meshOf] using h.goodT hu,fun a b c ha hb hc=>?_⟩
  obtain ⟨h1,h2,h3⟩:=h.at hu
  have e1:=map_get (k:=k) (d:=d) h1
  have e2:=map_get (k:=k) (d:=d) h2
  have e3:=map_get (k:=k) (d:=d) h3
  simp only [meshOf,triOf]at ha hb hc
  rw [e1]at ha
  rw [e2]at hb
  rw [e3]at hc
  cases ha;cases hb;cases hc
  rw [turn_pt hk hd,sgn_one]
  exact of_decide_eq_true (h.pos u hu)
 ·simpa [meshOf] using hsd
 ·intro p hp'
  obtain ⟨q,hq,rfl⟩:=List.mem_map.1 hp'
  have:=hp_pt hs hd' (h.low q hq)
  omega
 ·simpa [meshOf] using h.one
theorem Net.goodO {P:List P2} {L:List T2} (h:Net P L) {k:K4} {d:Nat} (hk:0<det4 k) (hs:smallK k) (hd:0<d) (hd':d<4294967296) {sd:List Tri}:GoodO (meshOf k d P L sd):=by
 refine⟨?_,?_,?_,?_,?_,?_,?_⟩
 ·intro t ht
  obtain ⟨u,hu,rfl⟩:=List.mem_map.1 ht
  simpa [meshOf] using h.goodT hu
 ·have:(meshOf k d P L sd).pts.length=P.length:=by simp [meshOf]
  rw [this]
  refine used_all fun i hi=>?_
  obtain ⟨t,ht,h1⟩:=(h.mem P[i]).1 (List.getElem_mem hi)
  refine⟨triOf P t,List.mem_map.2 ⟨t,ht,rfl⟩,?_⟩
  have h2:=has3_tri (h.at ht) (List.getElem_mem hi)
  rw [h.nd.idxOf_getElem i hi,h1]at h2
  exact h2
 ·show(P.map (ptM k d)).Nodup
  exact List.Pairwise.map _ (fun a b hab e=>hab (ptM_inj hk hd e)) h.nd
 ·intro p hp'
  obtain ⟨q,hq,rfl⟩:=List.mem_map.1 hp'
  have:=hp_pt hs hd' (h.low q hq)
  omega
 ·have:=h.fewP;simp [meshOf];omega
 ·have:=h.few;simp [meshOf];omega
 ·obtain ⟨t,ht⟩:=List.exists_mem_of_ne_nil L h.one
  intro e
  have h1:=(h.at ht).1
  simp only [meshOf,List.map_eq_nil_iff]at e
  rw [e]at h1
  simp at h1
end Go.Proofs.YtjijceliboaeaaaGreatDoor
