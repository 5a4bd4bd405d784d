/-
  Part 28 of the proof: GridC ChkG WholeK.
-/
import Derived.Test.YtfgmdhjmgdccdaaGreatJ23
import Derived.Test.YtfgmdhjmgdccdaaGreatJ20
import Derived.Test.YtfgmdhjmgdccdaaGreatJ22
import Derived.Test.YtfgmdhjmgdccdaaGreatJ21
import Derived.Test.YtfgmdhjmgdccdaaGreatJ17
import Derived.Test.YtfgmdhjmgdccdaaGreatJ24
import Derived.Deep.Upon
import Derived.Lib.SliceRun
set_option linter.unusedSimpArgs false
set_option linter.unusedVariables false
set_option maxHeartbeats 8000000
namespace Go.Proofs.YtfgmdhjmgdccdaaGreat
open Go.RowKit Gus Go.Maps
def triOf (P:List P2) (t:T2):Tri:=(P.idxOf t.1,P.idxOf t.2.1,P.idxOf t.2.2)
def meshOf (k:K4) (d:Nat) (P:List P2) (L:List T2) (sd:List Tri):Msh:=⟨P.map (ptM k d),L.map (triOf P),sd⟩
structure Net (P:List P2) (L:List T2):Prop where
 nd:P.Nodup
 pair:L.Pairwise fun t u=>okB t u=true
 pos:∀t∈L,posB t=true
 mem:∀q,q∈P↔∃t∈L,hasP t q=true
 low:∀q∈P,q.1≤60∧q.2≤60
 one:L≠ []
 few:L.length≤36
 fewP:P.length≤108
theorem hasP_self (t:T2):hasP t t.1=true∧hasP t t.2.1=true∧hasP t t.2.2=true:=by simp [hasP]
theorem Net.at {P:List P2} {L:List T2} (h:Net P L) {t:T2} (ht:t∈L):t.1∈P∧t.2.1∈P∧t.2.2∈P:=
 ⟨(h.mem _).2 ⟨t,ht,(hasP_self t).1⟩,(h.mem _).2 ⟨t,ht,(hasP_self t).2.1⟩,(h.mem _).2 ⟨t,ht,(hasP_self t).2.2⟩⟩
theorem idx_get {P:List P2} {p:P2} (h:p∈P):P[P.idxOf p]? =some p:=by
 have h1:=List.idxOf_lt_length_of_mem h
 rw [List.getElem?_eq_getElem h1,List.getElem_idxOf h1]
theorem idx_inj {P:List P2} {p q:P2} (hp:p∈P) (hq:q∈P) (h:P.idxOf p=P.idxOf q):p=q:=by
 have h1:=idx_get hp
 rw [h,idx_get hq]at h1
 exact(Option.some.inj h1).symm
theorem idx_of {P:List P2} (hn:P.Nodup) {i:Nat} {p:P2} (h:P[i]? =some p):P.idxOf p=i:=by
 obtain ⟨hi,rfl⟩:=List.getElem?_eq_some_iff.1 h
 exact hn.idxOf_getElem i hi
theorem pos_ne {t:T2} (h:posB t=true):t.1≠t.2.1∧t.2.1≠t.2.2∧t.2.2≠t.1:=by
 unfold posB at h
 rw [decide_eq_true_eq]at h
 refine⟨fun e=>?_,fun e=>?_,fun e=>?_⟩
 ·rw [e]at h;simp [cross2]at h
 ·rw [←e]at h;unfold cross2 at h;rw [Int.mul_comm]at h;omega
 ·rw [e]at h;simp [cross2]at h
theorem Net.goodT {P:List P2} {L:List T2} (h:Net P L) {t:T2} (ht:t∈L):goodT P.length (triOf P t):=by
 obtain ⟨h1,h2,h3⟩:=h.at ht
 obtain ⟨e1,e2,e3⟩:=pos_ne (h.pos t ht)
 exact⟨List.idxOf_lt_length_of_mem h1,List.idxOf_lt_length_of_mem h2,List.idxOf_lt_length_of_mem h3,fun e=>e1 (idx_inj h1 h2 e),fun e=>e2 (idx_inj h2 h3 e),fun e=>e3 (idx_inj h3 h1 e)⟩
theorem map_get {P:List P2} {k:K4} {d:Nat} {p:P2} (h:p∈P):(P.map (ptM k d))[P.idxOf p]? =some (ptM k d p):=by rw [List.getElem?_map,idx_get h];rfl
theorem sgn_zero {n:Int}:sgnI n=0↔n=0:=by unfold sgnI;split<;>(try split)<;>omega
theorem ptM_inj {k:K4} {d:Nat} (hk:0<det4 k) (hd:0<d) {p q:P2} (h:ptM k d p=ptM k d q):p=q:=by
 have key:∀r,cross2 p q r=0:=fun r=>by
  have h1:=turn_pt hk hd p q r
  have h2:=turn_pt hk hd q q r
  rw [h,h2]at h1
  have h3:cross2 q q r=0:=by simp [cross2]
  rw [h3]at h1
  exact sgn_zero.1 (h1.symm.trans (sgn_zero.2 rfl))
 have a:=key (p.1+1,p.2)
 have b:=key (p.1,p.2+1)
 unfold cross2 at a b
 simp at a b
 obtain ⟨x,y⟩:=p
 obtain ⟨u,v⟩:=q
 simp only [Prod.mk.injEq]at a b ⊢
 omega
theorem hw_qQ' (n:Int) (d:Nat) (h1: -9223372036854775808≤n) (h2:n≤9223372036854775807) (hd:d<4294967296):hw (qQ n d)≤4:=by
 unfold qQ
 have h0:(((if d=0 then 1 else d:Nat):Int):Rat).num≠0:=by
  show((if d=0 then 1 else d:Nat):Int)≠0
  split<;>omega
 rw [Rat.div_def]
 have a:=hw_mul (n:Rat) (((if d=0 then 1 else d:Nat):Int):Rat)⁻¹
 have b:=hw_inv _ h0
 have c:=hw_int n h1 h2
 have e:=hw_int ((if d=0 then 1 else d:Nat):Int) (by split<;>omega) (by split<;>omega)
 omega
def smallK (k:K4):Prop:=k.1.natAbs≤3∧k.2.1.natAbs≤3∧k.2.2.1.natAbs≤3∧k.2.2.2.natAbs≤3
theorem lin_bound {a b:Int} {x y:Nat} (ha:a.natAbs≤3) (hb:b.natAbs≤3) (hx:x≤60) (hy:y≤60): -360≤a*x+b*y∧a*x+b*y≤360:=by
 have h1:(a*(x:Int)).natAbs≤3*60:=by rw [Int.natAbs_mul];exact Nat.mul_le_mul ha (by simpa using hx)
 have h2:(b*(y:Int)).natAbs≤3*60:=by rw [Int.natAbs_mul];exact Nat.mul_le_mul hb (by simpa using hy)
 omega
theorem hp_pt {k:K4} {d:Nat} (hk:smallK k) (hd:d<4294967296) {p:P2} (hp':p.1≤60∧p.2≤60):hp (ptM k d p)≤4:=by
 have h1:=lin_bound hk.1 hk.2.1 hp'.1 hp'.2
 have h2:=lin_bound hk.2.2.1 hk.2.2.2 hp'.1 hp'.2
 have a:=hw_qQ' (k.1*p.1+k.2.1*p.2) d (by omega) (by omega) hd
 have b:=hw_qQ' (k.2.2.1*p.1+k.2.2.2*p.2) d (by omega) (by omega) hd
 unfold hp ptM
 simp only
 omega
theorem used_at {N:Nat} {l:List Tri} {i:Nat} (hi:i<N):∀n,(usedS N l n)[i]? =some ((l.take n).any fun t=>has3 t i)
 | 0=>by simp [usedS,hi]
 | n+1=>by
  have ih:=used_at (l:=l) hi n
  have hlen:=usedS_len N l n
  rcases ht:l[n]? with _|t
  ·have hle:l.length≤n:=List.getElem?_eq_none_iff.1 ht
   have e1:usedS N l (n+1)=usedS N l n:=by simp [usedS,ht]
   rw [e1,ih,List.take_of_length_le hle,List.take_of_length_le (by omega)]
  ·rw [usedS_succ ht,List.take_add_one,ht,List.any_append]
   unfold ustep
   simp only [List.getElem?_set,List.length_set,hlen,ih,Option.toList_some,List.any_cons,List.any_nil,Bool.or_false,has3]
   by_cases h1:t.2.2=i
   ·simp [h1,hi]
   ·by_cases h2:t.2.1=i
    ·simp [h1,h2,hi]
    ·by_cases h3:t.1=i
     ·simp [h1,h2,h3,hi]
     ·simp [h1,h2,h3]
theorem used_all {N:Nat} {l:List Tri} (h:∀i,i<N→∃t∈l,has3 t i=true):usedS N l l.length=List.replicate N true:=by
 apply List.ext_getElem?
 intro i
 by_cases hi:i<N
 ·rw [used_at hi,List.take_length,List.getElem?_replicate,if_pos hi]
  obtain ⟨t,ht,h1⟩:=h i hi
  rw [List.any_eq_true.2 ⟨t,ht,h1⟩]
 ·rw [List.getElem?_eq_none_iff.2 (by rw [usedS_len];omega),List.getElem?_eq_none_iff.2 (by simp;omega)]
theorem has3_tri {P:List P2} {t:T2} (h:t.1∈P∧t.2.1∈P∧t.2.2∈P) {q:P2} (hq:q∈P):has3 (triOf P t) (P.idxOf q)=hasP t q:=by
 unfold has3 hasP triOf
 have e:∀p,p∈P→((P.idxOf p == P.idxOf q)=(p == q)):=fun p hp=>by
  by_cases h1:p=q
  ·subst h1;simp
  ·have h2:¬P.idxOf p=P.idxOf q:=fun h3=>h1 (idx_inj hp hq h3)
   rw [beq_eq_false_iff_ne.2 h2,beq_eq_false_iff_ne.2 h1]
 simp only [e _ h.1,e _ h.2.1,e _ h.2.2]
theorem Net.goodA {P:List P2} {L:List T2} (h:Net P L) {k:K4} {d:Nat} (hk:0<det4 k) (hs:smallK k) (hd:0<d) (hd':d<4294967296) {sd:List Tri} (hsd:∀s∈sd,s.1<P.length∧s.2.1<P.length∧s.2.2≤255):GoodA (meshOf k d P L sd):=by
 refine⟨?_,?_,?_,?_⟩
 ·intro t ht
  obtain ⟨u,hu,rfl⟩:=List.mem_map.1 ht
  refine⟨by simpa [meshOf] using h.goodT hu,fun a b c ha hb hc=>?_⟩
  obtain ⟨h1,h2,h3⟩:=h.at hu
  have e1:=map_get (k:=k) (d:=d) h1
  have e2:=map_get (k:=k) (d:=d) h2
  have e3:=map_get (k:=k) (d:=d) h3
  simp only [meshOf,triOf]at ha hb hc
  rw [e1]at ha
  rw [e2]at hb
  rw [e3]at hc
  cases ha;cases hb;cases hc
  rw [turn_pt hk hd,sgn_one]
  exact of_decide_eq_true (h.pos u hu)
 ·simpa [meshOf] using hsd
 ·intro p hp'
  obtain ⟨q,hq,rfl⟩:=List.mem_map.1 hp'
  have:=hp_pt hs hd' (h.low q hq)
  omega
 ·simpa [meshOf] using h.one
theorem Net.goodO {P:List P2} {L:List T2} (h:Net P L) {k:K4} {d:Nat} (hk:0<det4 k) (hs:smallK k) (hd:0<d) (hd':d<4294967296) {sd:List Tri}:GoodO (meshOf k d P L sd):=by
 refine⟨?_,?_,?_,?_,?_,?_,?_⟩
 ·intro t ht
  obtain ⟨u,hu,rfl⟩:=List.mem_map.1 ht
  simpa [meshOf] using h.goodT hu
 ·have:(meshOf k d P L sd).pts.length=P.length:=by simp [meshOf]
  rw [this]
  refine used_all fun i hi=>?_
  obtain ⟨t,ht,h1⟩:=(h.mem P[i]).1 (List.getElem_mem hi)
  refine⟨triOf P t,List.mem_map.2 ⟨t,ht,rfl⟩,?_⟩
  have h2:=has3_tri (h.at ht) (List.getElem_mem hi)
  rw [h.nd.idxOf_getElem i hi,h1]at h2
  exact h2
 ·show(P.map (ptM k d)).Nodup
  exact List.Pairwise.map _ (fun a b hab e=>hab (ptM_inj hk hd e)) h.nd
 ·intro p hp'
  obtain ⟨q,hq,rfl⟩:=List.mem_map.1 hp'
  have:=hp_pt hs hd' (h.low q hq)
  omega
 ·have:=h.fewP;simp [meshOf];omega
 ·have:=h.few;simp [meshOf];omega
 ·obtain ⟨t,ht⟩:=List.exists_mem_of_ne_nil L h.one
  intro e
  have h1:=(h.at ht).1
  simp only [meshOf,List.map_eq_nil_iff]at e
  rw [e]at h1
  simp at h1
end Go.Proofs.YtfgmdhjmgdccdaaGreat
namespace Go.Proofs.YtfgmdhjmgdccdaaGreat
open Go.RowKit Gus Go.Maps
theorem tri_at {L:List T2} (P:List P2) {j:Nat} (hj:j<L.length):(L.map (triOf P))[j]? =some (triOf P L[j]):=by rw [List.getElem?_map,List.getElem?_eq_getElem hj];rfl
theorem hasT_tri {P:List P2} {t:T2} (h:t.1∈P∧t.2.1∈P∧t.2.2∈P) {q:P2} (hq:q∈P):hasT (triOf P t) (P.idxOf q)=hasP t q:=by
 rw [←has3_tri h hq]
 unfold hasT has3
 have e:∀a b:Nat,(((b:Nat):Int) == ((a:Nat):Int))=(a == b):=fun a b=>by
  by_cases h1:a=b
  ·subst h1;simp
  ·have h2:¬(b:Int)=(a:Int):=by omega
   rw [beq_eq_false_iff_ne.2 h2,beq_eq_false_iff_ne.2 h1]
 simp only [List.contains_cons,List.contains_nil,Bool.or_false,e,Bool.or_assoc]
theorem Net.ok {P:List P2} {L:List T2} (h:Net P L) {i j:Nat} (hi:i<L.length) (hj:j<L.length) (hne:i≠j):okB L[i] L[j]=true:=by
 rcases Nat.lt_or_gt_of_ne hne with hlt|hlt
 ·exact List.pairwise_iff_getElem.1 h.pair i j hi hj hlt
 ·have h1:=List.pairwise_iff_getElem.1 h.pair j i hj hi hlt
  unfold okB at h1 ⊢
  simp only [Bool.and_eq_true]at h1 ⊢
  exact⟨⟨⟨h1.1.1.2,h1.1.1.1⟩,h1.2⟩,h1.1.2⟩
theorem right_pt {k:K4} {d:Nat} (hk:0<det4 k) (hd:0<d) {p q:P2} {u:T2} (h:rightB p q u=true):rightP (ptM k d p) (ptM k d q) [ptM k d u.1,ptM k d u.2.1,ptM k d u.2.2]=true:=by
 unfold rightB at h
 simp only [Bool.and_eq_true,decide_eq_true_eq]at h
 unfold rightP
 simp only [List.any_cons,List.any_nil,Bool.or_false,turn_pt hk hd,Bool.not_eq_true',Bool.or_eq_false_iff,decide_eq_false_iff_not,sgn_pos]
 omega
theorem bey_pt {k:K4} {d:Nat} (hk:0<det4 k) (hd:0<d) {t u:T2} (h:beyB t u=true):beyP (ptM k d t.1) (ptM k d t.2.1) (ptM k d t.2.2) [ptM k d u.1,ptM k d u.2.1,ptM k d u.2.2]=true:=by
 unfold beyB at h
 simp only [Bool.or_eq_true]at h
 unfold beyP
 rcases h with(h|h)|h<;>simp [right_pt hk hd h]
theorem out_at {P:List P2} {L:List T2} (h:Net P L) {i:Nat} (hi:i<L.length) {q:P2} (hq:q∈P) (hn:hasP L[i] q=false):outB L[i] q=true:=by
 obtain ⟨u,hu,hc⟩:=(h.mem q).1 hq
 obtain ⟨j,hj,rfl⟩:=List.getElem_of_mem hu
 have hne:i≠j:=fun e=>by subst e;rw [hc]at hn;cases hn
 have ho:=h.ok hi hj hne
 unfold okB outT at ho
 simp only [Bool.and_eq_true,Bool.or_eq_true]at ho
 obtain ⟨⟨_,h1⟩,_⟩:=ho
 unfold hasP at hc
 simp only [Bool.or_eq_true,beq_iff_eq]at hc
 rcases hc with(hc|hc)|hc
 ·rw [hc]at h1
  rcases h1.1.1 with h2|h2
  ·rw [h2]at hn;cases hn
  ·exact h2
 ·rw [hc]at h1
  rcases h1.1.2 with h2|h2
  ·rw [h2]at hn;cases hn
  ·exact h2
 ·rw [hc]at h1
  rcases h1.2 with h2|h2
  ·rw [h2]at hn;cases hn
  ·exact h2
theorem two_pos {k:K4} {d:Nat} (hk:0<det4 k) (hd:0<d) {t:T2} (h:posB t=true):(twice (ptM k d t.1) (ptM k d t.2.1) (ptM k d t.2.2)).num≠0:=by
 intro e
 have h1:=twice_sgn hk hd t.1 t.2.1 t.2.2
 rw [e]at h1
 have h2:0<cross2 t.1 t.2.1 t.2.2:=of_decide_eq_true h
 have h3:=sgn_zero.1 h1.symm
 omega
structure RimOk (tris sd:List Tri):Prop where
 srt:(sd.map fun t=>((t.1:Int),(t.2.1:Int))).Pairwise ltI
 mem:∀a b:Nat,((a:Int),(b:Int))∈sd.map (fun t=>((t.1:Int),(t.2.1:Int)))↔a<b∧(tris.countP fun t=>has3 t a && has3 t b)=1
theorem rim_eq {N:Nat} {tris sd:List Tri} (hl:∀t∈tris,goodT N t) (h:RimOk tris sd) {es:List Edg} (hp:es.Perm (stE tris tris.length)) (hs:es.Pairwise fun a b=> ¬ordE b a<0):
  sd.map (fun t=>(t.1,t.2.1))=(rimOf (stC tris tris.length) es).map (fun t=>(t.1,t.2.1)):=by
 obtain ⟨h1,h2⟩:=rim_pairs hl hp hs
 have h3:sd.map (fun t=>((t.1:Int),(t.2.1:Int)))=(rimOf (stC tris tris.length) es).map (fun t=>((t.1:Int),(t.2.1:Int))):=by
  refine sorted_ext h.srt h1 fun p=>?_
  constructor
  ·intro hp'
   obtain ⟨s,_,rfl⟩:=List.mem_map.1 hp'
   exact(h2 _ _).2 ((h.mem _ _).1 hp')
  ·intro hp'
   obtain ⟨s,_,rfl⟩:=List.mem_map.1 hp'
   exact(h.mem _ _).2 ((h2 _ _).1 hp')
 have h4:=congrArg (List.map fun p:Int×Int=>(p.1.toNat,p.2.toNat)) h3
 rw [List.map_map,List.map_map]at h4
 exact h4
theorem ms_CheckG {P:List P2} {L:List T2} (h:Net P L) {k:K4} {d:Nat} (hk:0<det4 k) (hs:smallK k) (hd:0<d) (hd':d<4294967296) {sd:List Tri} (hsd:∀s∈sd,s.1<P.length∧s.2.1<P.length∧s.2.2≤255) (hsl:sd.length≤24576) (hr:RimOk (L.map (triOf P)) sd) (vp vt vs:Value) (w:World) (hM:MS w 0 vp vt vs (meshOf k d P L sd)):
  Calls Tryz.prog 56 #[.agg #[vp,vt,vs]] w (Ret w (.int .i64 0)):=by
 have hgt:∀t∈L.map (triOf P),goodT P.length t:=by
  intro t ht
  obtain ⟨u,hu,rfl⟩:=List.mem_map.1 ht
  exact h.goodT hu
 have hlow:∀q,q∈P→hp (ptM k d q)≤4:=fun q hq=>hp_pt hs hd' (h.low q hq)
 have hfew:=h.few
 have hfewP:=h.fewP
 refine msCheck_raw (meshOf k d P L sd) vp vt vs w hM (by simp [meshOf];omega) (by simp [meshOf];omega) (by simpa [meshOf] using hsl)
  (fun W hW=>ms_args _ vp vt vs W hW (h.goodA hk hs hd hd' hsd)) (fun W hW=>ms_onceG _ vp vt vs W hW (h.goodO hk hs hd hd')) (fun W hW=>?_) (fun W hW=>?_)
 ·refine apart_raw (meshOf k d P L sd) vp vt vs (fun j=>ptM k d (L.getD j default).1) (fun j=>ptM k d (L.getD j default).2.1) (fun j=>ptM k d (L.getD j default).2.2) W hW (fun j hj W hW=>?_) (fun i j hji hi W=>?_) (fun i t q p ht hp' hn W=>?_)
  ·have hj':j<L.length:=by simpa [meshOf] using hj
   obtain ⟨h1,h2,h3⟩:=h.at (List.getElem_mem hj')
   have e:L.getD j default=L[j]:=by rw [List.getD_eq_getElem?_getD,List.getElem?_eq_getElem hj'];rfl
   simp only [e]
   have g:=h.goodT (List.getElem_mem hj')
   have gl:(meshOf k d P L sd).pts.length=P.length:=by simp [meshOf]
   have get:∀p,p∈P→∀hlt:P.idxOf p<(meshOf k d P L sd).pts.length,(meshOf k d P L sd).pts[P.idxOf p]=ptM k d p:=fun p hp hlt=>by
    have h9:=map_get (k:=k) (d:=d) hp
    rw [List.getElem?_eq_getElem (by simpa [meshOf] using hlt)]at h9
    exact Option.some.inj h9
   exact ms_corners (meshOf k d P L sd) vp vt vs j (triOf P L[j]) _ _ _ W hW hj (by simp [meshOf]) (by rw [gl];exact g.1) (by rw [gl];exact g.2.1) (by rw [gl];exact g.2.2.1) (get _ h1 _) (get _ h2 _) (get _ h3 _)
  ·have hi':i<L.length:=by simpa [meshOf] using hi
   have hj':j<L.length:=by omega
   have e1:L.getD i default=L[i]:=by rw [List.getD_eq_getElem?_getD,List.getElem?_eq_getElem hi'];rfl
   have e2:L.getD j default=L[j]:=by rw [List.getD_eq_getElem?_getD,List.getElem?_eq_getElem hj'];rfl
   simp only [e1,e2]
   obtain ⟨h1,h2,h3⟩:=h.at (List.getElem_mem hi')
   obtain ⟨h4,h5,h6⟩:=h.at (List.getElem_mem hj')
   have hb:beyB L[i] L[j]=true:=by
    have h7:=h.ok hi' hj' (by omega)
    unfold okB at h7
    simp only [Bool.and_eq_true]at h7
    exact h7.1.1.1
   have hc:=ms_beyondG (ptM k d L[i].1) (ptM k d L[i].2.1) (ptM k d L[i].2.2) (ptM k d L[j].1) (ptM k d L[j].2.1) (ptM k d L[j].2.2) W (Nat.le_trans (hlow _ h1) (by omega)) (Nat.le_trans (hlow _ h2) (by omega)) (Nat.le_trans (hlow _ h3) (by omega)) (by
    intro r hr'
    simp only [List.mem_cons,List.not_mem_nil,or_false]at hr'
    rcases hr' with rfl|rfl|rfl
    ·exact Nat.le_trans (hlow _ h4) (by omega)
    ·exact Nat.le_trans (hlow _ h5) (by omega)
    ·exact Nat.le_trans (hlow _ h6) (by omega))
   rw [bey_pt hk hd hb]at hc
   exact hc
  ·have hi':i<L.length:=by
    have:=(List.getElem?_eq_some_iff.1 ht).1
    simpa [meshOf] using this
   have e1:L.getD i default=L[i]:=by rw [List.getD_eq_getElem?_getD,List.getElem?_eq_getElem hi'];rfl
   simp only [e1]
   have ht':t=triOf P L[i]:=by
    have h9:=tri_at (L:=L) P hi'
    exact Option.some.inj (ht.symm.trans h9)
   subst ht'
   have hq':q<P.length:=by
    have:=(List.getElem?_eq_some_iff.1 hp').1
    simpa [meshOf] using this
   have hpq:p=ptM k d P[q]:=by
    have h9:(P.map (ptM k d))[q]? =some (ptM k d P[q]):=by rw [List.getElem?_map,List.getElem?_eq_getElem hq'];rfl
    exact Option.some.inj (hp'.symm.trans h9)
   subst hpq
   obtain ⟨h1,h2,h3⟩:=h.at (List.getElem_mem hi')
   have hm:=List.getElem_mem hq'
   have hn':hasP L[i] P[q]=false:=by
    rw [←hasT_tri (h.at (List.getElem_mem hi')) hm,h.nd.idxOf_getElem q hq']
    exact hn
   have hc:=ms_Where (ptM k d L[i].1) (ptM k d L[i].2.1) (ptM k d L[i].2.2) (ptM k d P[q]) W (Nat.le_trans (hlow _ h1) (by omega)) (Nat.le_trans (hlow _ h2) (by omega)) (Nat.le_trans (hlow _ h3) (by omega)) (Nat.le_trans (hlow _ hm) (by omega)) (two_pos hk hd (h.pos _ (List.getElem_mem hi')))
   rw [where_out hk hd (h.pos _ (List.getElem_mem hi')) (out_at h hi' hm hn')]at hc
   exact hc
 ·by_cases hex:∃es:List Edg,es.Perm (stE (L.map (triOf P)) (L.map (triOf P)).length)∧es.Pairwise fun a b=> ¬ordE b a<0
  ·obtain ⟨es,hp1,hs1⟩:=hex
   refine rimmed_raw (meshOf k d P L sd) (rimOf (stC (L.map (triOf P)) (L.map (triOf P)).length) es) vp vt vs W hW (fun W hW=>?_) (rim_eq hgt hr hp1 hs1)
   refine(ms_RimG (P.map (ptM k d)) vp vt W (L.map (triOf P)) hW.1 (by simp;omega) hW.2.1 (by simpa using hgt) (by simp;omega) (by simpa using h.one)).mono ?_
   rintro e w' ⟨v,rfl,es',hS,hp2,hs2,hg⟩
   rw [es_unique (stE_nodup _ _) hp2 hs2 hp1 hs1]at hS
   exact⟨v,rfl,hS.mono (Nat.zero_le _),hg⟩
  ·refine rimmed_raw (meshOf k d P L sd) sd vp vt vs W hW (fun W hW=>?_) rfl
   refine(ms_RimG (P.map (ptM k d)) vp vt W (L.map (triOf P)) hW.1 (by simp;omega) hW.2.1 (by simpa using hgt) (by simp;omega) (by simpa using h.one)).mono ?_
   rintro e w' ⟨v,rfl,es',hS,hp2,hs2,hg⟩
   exact absurd ⟨es',hp2,hs2⟩ hex
end Go.Proofs.YtfgmdhjmgdccdaaGreat
namespace Go.Proofs.YtfgmdhjmgdccdaaGreat
open Go.RowKit Gus Go.Maps
theorem Kp.sets (w:World) (b o:Nat) (vs:List Value):Kp w (w.setCells b o vs) (some b):=by
 have hg:=Gr.sets (B:=b) (Nat.le_refl _) vs o (Gr.refl b w)
 refine⟨⟨hg.os,hg.tape,hg.output,hg.size,fun k _ hk=>?_⟩,hg.drawn⟩
 exact World.heap_setCells_other w b o vs (by assumption) (fun e=>hk (by rw [e]))
theorem Kp.trans {w w1 w2:World} {row:Option Nat} (h:Kp w w1 row) (h2:Kp w1 w2 row):Kp w w2 row:=
 ⟨⟨h2.g.os.trans h.g.os,h2.g.tape.trans h.g.tape,h2.g.output.trans h.g.output,Nat.le_trans h.g.size h2.g.size,fun k hk hr=>(h2.g.block k (Nat.lt_of_lt_of_le hk h.g.size) hr).trans (h.g.block k hk hr)⟩,Nat.le_trans h.d h2.d⟩
theorem Gr.kp {w w':World} (h:Gr w.heap.size w w') (row:Option Nat):Kp w w' row:=⟨⟨h.os,h.tape,h.output,h.size,fun k hk _=>h.block k hk⟩,h.drawn⟩
theorem SR.own_lt {α:Type} {enc:α→List Value} {k:Nat} {t:TypeId} {w:World} {B:Nat} {v:Value} {l:List α} (h:SR enc k t w B v l) {g:Nat} (hg:v.ownBlock=some g):B≤g∧g<w.heap.size:=by
 rcases h with⟨rfl,_⟩|⟨g',cap,rfl,h2,h3,h4,h5,h6⟩
 ·simp [Value.ownBlock]at hg
 ·simp [Value.ownBlock]at hg
  subst hg
  exact⟨h2,h5.lt⟩
theorem own_sl {α:Type} {enc:α→List Value} {k:Nat} {t:TypeId} {w:World} {B:Nat} {v:Value} {l:List α} (h:SL enc k t w B v l):∀g,v.ownBlock=some g→B≤g∧g<w.heap.size:=fun _ e=>h.sr.own_lt e
theorem Kp.far {W w1 w2:World} {b:Nat} {row:Option Nat} (h:Kp W w1 (some b)) (h2:Kp w1 w2 row) (hr:∀g,row=some g→W.heap.size≤g):Kp W w2 (some b):=
 ⟨⟨h2.g.os.trans h.g.os,h2.g.tape.trans h.g.tape,h2.g.output.trans h.g.output,Nat.le_trans h.g.size h2.g.size,fun k hk hne=>(h2.g.block k (Nat.lt_of_lt_of_le hk h.g.size) (fun e=>by have:=hr k e.symm;omega)).trans (h.g.block k hk hne)⟩,Nat.le_trans h.d h2.d⟩
abbrev i2C (p:Int×Int):List Value:= [.int .i64 p.1,.int .i64 p.2]
def rowS (TR:List Tri) (f a b:Nat):List Tri:=((List.range b).filter fun c=>decide (a<c) && (TR.countP (fun t=>has3 t a && has3 t c) == 1)).map fun c=>(a,c,(a+3*c+f) % 5)
def sdTo (TR:List Tri) (f N a:Nat):List Tri:=(List.range a).flatMap fun i=>rowS TR f i N
theorem rowS_start (TR:List Tri) (f a:Nat):rowS TR f a (a+1)= []:=by
 unfold rowS
 rw [List.filter_eq_nil_iff.2]
 ·rfl
 ·intro c hc
  rw [List.mem_range]at hc
  simp
  omega
theorem rowS_succ (TR:List Tri) (f:Nat) {a b:Nat} (h:a<b):rowS TR f a (b+1)=rowS TR f a b++(if TR.countP (fun t=>has3 t a && has3 t b)=1 then [(a,b,(a+3*b+f) % 5)]else []):=by
 unfold rowS
 rw [List.range_succ,List.filter_append,List.map_append]
 by_cases h1:TR.countP (fun t=>has3 t a && has3 t b)=1
 ·simp [h,h1]
 ·simp [h1]
theorem sdTo_succ (TR:List Tri) (f N a:Nat):sdTo TR f N (a+1)=sdTo TR f N a++rowS TR f a N:=by
 unfold sdTo
 rw [List.range_succ,List.flatMap_append]
 simp
theorem rowS_len (TR:List Tri) (f a b:Nat):(rowS TR f a b).length≤b:=by
 unfold rowS
 rw [List.length_map]
 exact Nat.le_trans (List.length_filter_le _ _) (by simp)
theorem sdTo_len (TR:List Tri) (f N a:Nat):(sdTo TR f N a).length≤a*N:=by
 induction a with
 | zero=>simp [sdTo]
 | succ a ih=>rw [sdTo_succ,List.length_append,Nat.add_mul];have:=rowS_len TR f a N;omega
def tailW (n:Nat):Code→Code
 | .seq x y=>if headW n x then .seq x y else tailW n y
 | c=>c
where headW (n:Nat):Code→Bool
 | .region m _ _=>m == n
 | .seq a _=>headW n a
 | _=>false
end Go.Proofs.YtfgmdhjmgdccdaaGreat
