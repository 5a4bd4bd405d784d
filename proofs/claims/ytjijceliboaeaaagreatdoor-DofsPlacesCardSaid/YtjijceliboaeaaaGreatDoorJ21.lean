/-
  Part 21 of the proof: RimG RimP.
-/
import Derived.Test.YtjijceliboaeaaaGreatDoorJ20
set_option linter.unusedSimpArgs false
set_option linter.unusedVariables false
namespace Go.Proofs.YtjijceliboaeaaaGreatDoor
open Go.RowKit Gus Go.Maps
noncomputable def kR:TypeId:=((Tryz.prog.underlying 160).bind fun| .map k _=>some k|_=>none).getD 0
theorem under_R:Tryz.prog.underlying 160=some (.map kR 3):=by kernel_rfl
theorem keyed_R:Keyed Tryz.prog kR:=Keyed.of_law (deep_law_laid (m:=9) (by kernel_rfl) (by omega) (of_decide_eq_true (by kernel_rfl)) (by kernel_rfl) (by kernel_rfl))
theorem keyOf_funR:(fun i j:Int=>keyOf Tryz.prog kR (.agg #[.int .i64 i,.int .i64 j]))=fun i j=>Option.map (fun ls=>Lit.string (keyBytes ls)) (Option.map List.flatten ([[Value.int .i64 i],[Value.int .i64 j]].mapM fun v=>Tryz.prog.keyLits 5 3 v)):=by kernel_rfl
theorem keyOf_R {i j:Nat} (hi:i<9223372036854775808) (hj:j<9223372036854775808):keyOf Tryz.prog kR (.agg #[.int .i64 (i:Int),.int .i64 (j:Int)])=some (klT i j):=by
 have h:=congrFun (congrFun keyOf_funR i) j
 simp only [List.mapM_cons,List.mapM_nil,keyLits_int 4 _ (wf_nat hi),keyLits_int 4 _ (wf_nat hj)]at h
 exact h
theorem wrap64_id {n:Int} (h1: -9223372036854775808≤n) (h2:n≤9223372036854775807):IntKind.i64.wrap n=n:=by
 have h3:(2:Int) ^ IntKind.bits .i64=18446744073709551616:=by decide
 have h4:(2:Int) ^ (IntKind.bits .i64 - 1)=9223372036854775808:=by decide
 have h5:IntKind.signed .i64=true:=rfl
 simp only [IntKind.wrap,h3,h4,h5,Bool.true_and,decide_eq_true_eq]
 split<;>omega
abbrev CE:=Int×Int×Int
abbrev eR (e:CE):Value×Value:=(endK e.1 e.2.1,.int .i64 e.2.2)
abbrev MIR (w:World) (b:Nat) (l:List CE):Prop:=MI Tryz.prog kR w b (l.map eR)
def keyC (a b:Nat) (c:CE):Bool:=c.1 == ((min a b:Nat):Int) && c.2.1 == ((max a b:Nat):Int)
def cstep (C:List CE) (d:DE):List CE:=match C.findIdx? (keyC d.1 d.2.1) with
 | some j=>match C[j]? with
  | some c=>C.set j (c.1,c.2.1,c.2.2+1)
  | none=>C
 | none=>C++ [(((min d.1 d.2.1:Nat):Int),((max d.1 d.2.1:Nat):Int),1)]
def stC (l:List Tri):Nat→List CE
 | 0=> []
 | n+1=>match l[n]? with
  | some t=>(dirT t n).foldl cstep (stC l n)
  | none=>stC l n
theorem stC_succ {l:List Tri} {n:Nat} {t:Tri} (h:l[n]? =some t):stC l (n+1)=(dirT t n).foldl cstep (stC l n):=by simp [stC,h]
theorem cstep_none {C:List CE} {a b t:Nat} (h:C.findIdx? (keyC a b)=none):cstep C (a,b,t)=C++ [(((min a b:Nat):Int),((max a b:Nat):Int),1)]:=by simp [cstep,h]
theorem cstep_some {C:List CE} {a b t j:Nat} {c:CE} (h:C.findIdx? (keyC a b)=some j) (hc:C[j]? =some c):cstep C (a,b,t)=C.set j (c.1,c.2.1,c.2.2+1):=by simp [cstep,h,hc]
theorem keyC_found {C:List CE} {a b j:Nat} (h:C.findIdx? (keyC a b)=some j):∃c,C[j]? =some c∧c.1=((min a b:Nat):Int)∧c.2.1=((max a b:Nat):Int):=by
 rw [List.findIdx?_eq_some_iff_getElem]at h
 obtain ⟨hj,hk,_⟩:=h
 refine⟨C[j],List.getElem?_eq_getElem hj,?_⟩
 simpa [keyC] using hk
theorem keyC_missed {C:List CE} {a b:Nat} (h:C.findIdx? (keyC a b)=none):∀p∈C.map eR,p.1≠endK ((min a b:Nat):Int) ((max a b:Nat):Int):=by
 rw [List.findIdx?_eq_none_iff]at h
 intro p hp e1
 obtain ⟨c,hc,rfl⟩:=List.mem_map.1 hp
 have:=h c hc
 simp [keyC,endK]at this e1
 exact this e1.1 e1.2
def Bnd (C:List CE) (m:Nat):Prop:=C.length≤m∧∀c∈C,0≤c.2.2∧c.2.2≤m
theorem cstep_bnd {C:List CE} {m:Nat} (h:Bnd C m) (d:DE):Bnd (cstep C d) (m+1):=by
 obtain ⟨h0,h⟩:=h
 unfold cstep
 split
 ·split
  ·rename_i c hc
   refine⟨by simp;omega,fun x hx=>?_⟩
   rcases List.mem_or_eq_of_mem_set hx with hx|rfl
   ·have:=h x hx;omega
   ·have:=h c (List.mem_of_getElem? hc);simp;omega
  ·exact⟨by omega,fun x hx=>by have:=h x hx;omega⟩
 ·refine⟨by simp;omega,fun x hx=>?_⟩
  simp only [List.mem_append,List.mem_singleton]at hx
  rcases hx with hx|rfl
  ·have:=h x hx;omega
  ·simp;omega
theorem foldC_bnd (D:List DE) {C:List CE} {m:Nat} (h:Bnd C m):Bnd (D.foldl cstep C) (m+D.length):=by
 induction D generalizing C m with
 | nil=>exact h
 | cons d D ih=>
  have:=ih (cstep_bnd h d)
  simpa [Nat.add_assoc,Nat.add_comm 1] using this
theorem Bnd.mono {C:List CE} {m n:Nat} (h:Bnd C m) (hn:m≤n):Bnd C n:=⟨by have:=h.1;omega,fun c hc=>by have:=h.2 c hc;omega⟩
theorem stC_bnd (l:List Tri) (n:Nat):Bnd (stC l n) (3*n):=by
 induction n with
 | zero=>exact⟨by simp [stC],by simp [stC]⟩
 | succ n ih=>
  simp only [stC]
  split
  ·exact(foldC_bnd _ ih).mono (by simp [dirT];omega)
  ·exact ih.mono (by omega)
def cntC (C:List CE) (a b:Int):Int:=match C.find? (fun c=>c.1 == a && c.2.1 == b) with
 | some c=>c.2.2
 | none=>0
def rimOf (C:List CE) (es:List Edg):List Tri:=(es.filter fun e=>cntC C e.a e.b == 1).map fun e=>(e.a.toNat,e.b.toNat,0)
theorem rimOf_succ {C:List CE} {es:List Edg} {j:Nat} {e:Edg} (h:es[j]? =some e):rimOf C (es.take (j+1))=rimOf C (es.take j)++(if cntC C e.a e.b=1 then [(e.a.toNat,e.b.toNat,0)]else []):=by
 unfold rimOf
 rw [List.take_add_one,h,List.filter_append,List.map_append]
 by_cases hc:cntC C e.a e.b=1
 ·simp [hc]
 ·simp [hc]
theorem rimOf_len (C:List CE) (es:List Edg):(rimOf C es).length≤es.length:=by
 unfold rimOf;rw [List.length_map];exact List.length_filter_le _ _
theorem cntC_look {C:List CE} {a b:Int} (hz:cntC C a b≠0∨∃c∈C,c.1=a∧c.2.1=b):(endK a b,Value.int .i64 (cntC C a b))∈C.map eR:=by
 unfold cntC at hz ⊢
 cases hf:C.find? (fun c=>c.1 == a && c.2.1 == b) with
 | none=>
  rw [hf]at hz
  rcases hz with h|⟨c,hc,h1,h2⟩
  ·exact absurd rfl h
  ·rw [List.find?_eq_none]at hf
   have:=hf c hc
   simp [h1,h2]at this
 | some c=>
  have h1:=List.find?_some hf
  have h2:=List.mem_of_find?_eq_some hf
  simp only [Bool.and_eq_true,beq_iff_eq]at h1
  exact List.mem_map.2 ⟨c,h2,by simp [eR,h1.1,h1.2]⟩
theorem cntC_zero {C:List CE} {a b:Int} (h:¬ ∃c∈C,c.1=a∧c.2.1=b):cntC C a b=0∧∀p∈C.map eR,p.1≠endK a b:=by
 constructor
 ·unfold cntC
  rw [List.find?_eq_none.2]
  intro c hc
  simp only [Bool.and_eq_true,beq_iff_eq]
  exact fun h1=>h ⟨c,hc,h1⟩
 ·intro p hp e1
  obtain ⟨c,hc,rfl⟩:=List.mem_map.1 hp
  simp [endK]at e1
  exact h ⟨c,hc,e1⟩
theorem RC.fE {w:World} {g:Nat} {l:List Edg} (h:RC eC 4 w g l) {j:Nat} (hj:j<l.length) {y:Edg} (hy:l[j]=y):w.cell? ⟨g,j*4,none⟩=some (.int .i64 y.a)∧w.cell? ⟨g,j*4+1,none⟩=some (.int .i64 y.b)∧w.cell? ⟨g,j*4+2,none⟩=some (.int .i64 y.l)∧w.cell? ⟨g,j*4+3,none⟩=some (.int .i64 y.r):=by
 subst hy
 exact⟨h j hj 0 _ rfl,h j hj 1 _ rfl,h j hj 2 _ rfl,h j hj 3 _ rfl⟩
def Ends (N:Nat) (E:List Edg):Prop:= ∀e∈E,∃i j:Nat,e.a=i∧e.b=j∧i<N∧j<N
theorem estep_ends {N:Nat} {E:List Edg} {d:DE} (h:Ends N E) (h1:d.1<N) (h2:d.2.1<N):Ends N (estep E d):=by
 obtain ⟨a,b,t⟩:=d
 dsimp only at h1 h2
 rcases hf:E.findIdx? (keyE a b)with _|j
 ·rw [estep_none hf]
  intro e he
  simp only [List.mem_append,List.mem_singleton]at he
  rcases he with he|rfl
  ·exact h e he
  ·rw [(updE_key a b t _).1,(updE_key a b t _).2]
   exact⟨min a b,max a b,rfl,rfl,by omega,by omega⟩
 ·obtain ⟨e,he,h3,h4⟩:=key_found hf
  rw [estep_some hf he]
  intro x hx
  rcases List.mem_or_eq_of_mem_set hx with hx|rfl
  ·exact h x hx
  ·rw [(updE_key a b t e).1,(updE_key a b t e).2]
   exact h e (List.mem_of_getElem? he)
theorem stE_ends {N:Nat} {l:List Tri} (hl:∀t∈l,goodT N t) (n:Nat):Ends N (stE l n):=by
 induction n with
 | zero=>intro e he;simp [stE]at he
 | succ n ih=>
  simp only [stE]
  split
  ·rename_i t ht
   obtain ⟨g1,g2,g3,_⟩:=hl t (List.mem_of_getElem? ht)
   simp only [dirT,List.foldl_cons,List.foldl_nil]
   exact estep_ends (estep_ends (estep_ends ih g1 g2) g2 g3) g3 g1
  ·exact ih
end Go.Proofs.YtjijceliboaeaaaGreatDoor
namespace Go.Proofs.YtjijceliboaeaaaGreatDoor
open Go.RowKit Gus Go.Maps
def has3 (t:Tri) (q:Nat):Bool:=t.1 == q || t.2.1 == q || t.2.2 == q
def keyD (a b:Nat) (d:DE):Bool:=min d.1 d.2.1 == a && max d.1 d.2.1 == b
theorem cntC_step (C:List CE) (d:DE) (a b:Nat):cntC (cstep C d) a b=cntC C a b+(if keyD a b d=true then 1 else 0):=by
 obtain ⟨x,y,t⟩:=d
 rcases hf:C.findIdx? (keyC x y)with _|j
 ·rw [cstep_none hf]
  rw [List.findIdx?_eq_none_iff]at hf
  by_cases hk:keyD a b (x,y,t)=true
  ·rw [if_pos hk]
   simp only [keyD,Bool.and_eq_true,beq_iff_eq]at hk
   have h0:C.find? (fun c=>c.1 == (a:Int) && c.2.1 == (b:Int))=none:=by
    rw [List.find?_eq_none]
    intro c hc
    have:=hf c hc
    simpa [keyC,hk.1,hk.2] using this
   unfold cntC
   rw [List.find?_append,h0]
   simp [hk.1,hk.2]
  ·rw [if_neg hk]
   simp only [keyD,Bool.and_eq_true,beq_iff_eq]at hk
   unfold cntC
   rw [List.find?_append]
   have h1:List.find? (fun c=>c.1 == (a:Int) && c.2.1 == (b:Int)) [(((min x y:Nat):Int),((max x y:Nat):Int),(1:Int))]=none:=by
    rw [List.find?_eq_none]
    intro c hc
    simp only [List.mem_singleton]at hc
    subst hc
    simp only [Bool.and_eq_true,beq_iff_eq,not_and]
    intro h2 h3
    exact hk ⟨by omega,by omega⟩
   rw [h1,Option.or_none]
   simp
 ·obtain ⟨c,hc,h1,h2⟩:=keyC_found hf
  rw [cstep_some hf hc]
  rw [List.findIdx?_eq_some_iff_getElem]at hf
  obtain ⟨hj,hk1,hk2⟩:=hf
  have hcj:C[j]=c:=by rw [List.getElem?_eq_getElem hj]at hc;exact Option.some.inj hc
  have hsplit:C=C.take j++c :: C.drop (j+1):=by rw [←hcj];simp
  have hset:C.set j (c.1,c.2.1,c.2.2+1)=C.take j++(c.1,c.2.1,c.2.2+1) :: C.drop (j+1):=by rw [List.set_eq_take_append_cons_drop,if_pos hj]
  unfold cntC
  have hC:C.find? (fun c=>c.1 == (a:Int) && c.2.1 == (b:Int))=(C.take j++c :: C.drop (j+1)).find? (fun c=>c.1 == (a:Int) && c.2.1 == (b:Int)):=by rw [←hsplit]
  rw [hset,hC,List.find?_append,List.find?_append]
  by_cases hk:keyD a b (x,y,t)=true
  ·rw [if_pos hk]
   simp only [keyD,Bool.and_eq_true,beq_iff_eq]at hk
   have h0:(C.take j).find? (fun c=>c.1 == (a:Int) && c.2.1 == (b:Int))=none:=by
    rw [List.find?_eq_none]
    intro u hu
    obtain ⟨i,hi,rfl⟩:=List.mem_take_iff_getElem.1 hu
    have:=hk2 i (by omega)
    simpa [keyC,hk.1,hk.2] using this
   rw [h0]
   simp [h1,h2,hk.1,hk.2]
  ·rw [if_neg hk]
   simp only [keyD,Bool.and_eq_true,beq_iff_eq]at hk
   have h3:¬(c.1=(a:Int)∧c.2.1=(b:Int)):=by rw [h1,h2];intro h;exact hk ⟨by omega,by omega⟩
   have h4:(c.1 == (a:Int) && c.2.1 == (b:Int))=false:=by
    rw [Bool.eq_false_iff];simpa using h3
   simp only [List.find?_cons,h4]
   simp
theorem cntC_fold (D:List DE) (C:List CE) (a b:Nat):cntC (D.foldl cstep C) a b=cntC C a b+(D.countP (keyD a b):Nat):=by
 induction D generalizing C with
 | nil=>simp
 | cons d D ih=>
  rw [List.foldl_cons,ih,cntC_step,List.countP_cons]
  split<;>simp<;>omega
theorem dirT_count {x y z a b n:Nat} (h1:x≠y) (h2:y≠z) (h3:z≠x) (hab:a<b):(dirT (x,y,z) n).countP (keyD a b)=if has3 (x,y,z) a && has3 (x,y,z) b then 1 else 0:=by
 simp only [dirT,List.countP_cons,List.countP_nil,keyD,has3,Bool.and_eq_true,Bool.or_eq_true,beq_iff_eq]
 repeat' split
 all_goals omega
theorem stC_count {N:Nat} {l:List Tri} (hl:∀t∈l,goodT N t) {a b:Nat} (hab:a<b) (n:Nat):cntC (stC l n) a b=(((l.take n).countP fun t=>has3 t a && has3 t b):Nat):=by
 induction n with
 | zero=>simp [stC,cntC]
 | succ n ih=>
  rcases ht:l[n]? with _|t
  ·have hle:l.length≤n:=List.getElem?_eq_none_iff.1 ht
   have e1:stC l (n+1)=stC l n:=by simp [stC,ht]
   rw [e1,ih,List.take_of_length_le hle,List.take_of_length_le (by omega)]
  ·obtain ⟨g1,g2,g3,e1,e2,e3⟩:=hl t (List.mem_of_getElem? ht)
   rw [stC_succ ht,cntC_fold,ih,List.take_add_one,ht,List.countP_append]
   obtain ⟨x,y,z⟩:=t
   rw [dirT_count e1 e2 e3 hab]
   simp [List.countP_cons]
def ends (E:List Edg):List (Int×Int):=E.map fun e=>(e.a,e.b)
theorem estep_ends_mem (E:List Edg) (d:DE) (p:Int×Int):p∈ends (estep E d)↔p∈ends E∨p=(((min d.1 d.2.1:Nat):Int),((max d.1 d.2.1:Nat):Int)):=by
 unfold ends
 rw [estep_keys]
 split
 ·rename_i h
  constructor
  ·exact .inl
  ·rintro (h1|rfl)
   ·exact h1
   ·rw [List.any_eq_true]at h
    obtain ⟨e,he,hk⟩:=h
    simp only [keyE,Bool.and_eq_true,beq_iff_eq]at hk
    exact List.mem_map.2 ⟨e,he,by rw [hk.1,hk.2]⟩
 ·simp
theorem estep_nodup {E:List Edg} (d:DE) (h:(ends E).Nodup):(ends (estep E d)).Nodup:=by
 unfold ends at h ⊢
 rw [estep_keys]
 split
 ·exact h
 ·rename_i hn
  rw [List.nodup_append]
  refine⟨h,by simp,?_⟩
  intro p hp q hq e
  simp only [List.mem_singleton]at hq
  subst hq
  obtain ⟨x,hx,hp⟩:=List.mem_map.1 hp
  apply hn
  rw [List.any_eq_true]
  refine⟨x,hx,?_⟩
  rw [e]at hp
  simp only [Prod.mk.injEq]at hp
  simp [keyE,hp.1,hp.2]
theorem fold_nodupE (D:List DE) {E:List Edg} (h:(ends E).Nodup):(ends (D.foldl estep E)).Nodup:=by
 induction D generalizing E with
 | nil=>exact h
 | cons d D ih=>exact ih (estep_nodup d h)
theorem stE_nodup (l:List Tri) (n:Nat):(ends (stE l n)).Nodup:=by
 induction n with
 | zero=>simp [stE,ends]
 | succ n ih=>simp only [stE];split;exact fold_nodupE _ ih;exact ih
theorem fold_mem_E (D:List DE) (E:List Edg) (p:Int×Int):p∈ends (D.foldl estep E)↔p∈ends E∨∃d∈D,p=(((min d.1 d.2.1:Nat):Int),((max d.1 d.2.1:Nat):Int)):=by
 induction D generalizing E with
 | nil=>simp
 | cons d D ih=>rw [List.foldl_cons,ih,estep_ends_mem];simp [or_assoc]
theorem dirT_mem {x y z n a b:Nat} (h1:x≠y) (h2:y≠z) (h3:z≠x):(∃d∈dirT (x,y,z) n,((a:Int),(b:Int))=(((min d.1 d.2.1:Nat):Int),((max d.1 d.2.1:Nat):Int)))↔a<b∧has3 (x,y,z) a=true∧has3 (x,y,z) b=true:=by
 simp only [dirT,List.mem_cons,List.not_mem_nil,or_false,exists_eq_or_imp,exists_eq_left,Prod.mk.injEq,has3,Bool.or_eq_true,beq_iff_eq]
 constructor
 ·rintro (h|h|h)<;>omega
 ·intro h;omega
theorem stE_mem {N:Nat} {l:List Tri} (hl:∀t∈l,goodT N t) (a b n:Nat):((a:Int),(b:Int))∈ends (stE l n)↔a<b∧∃t∈l.take n,has3 t a=true∧has3 t b=true:=by
 induction n with
 | zero=>simp [stE,ends]
 | succ n ih=>
  rcases ht:l[n]? with _|t
  ·have hle:l.length≤n:=List.getElem?_eq_none_iff.1 ht
   have e1:stE l (n+1)=stE l n:=by simp [stE,ht]
   rw [e1,ih,List.take_of_length_le hle,List.take_of_length_le (by omega)]
  ·obtain ⟨g1,g2,g3,e1,e2,e3⟩:=hl t (List.mem_of_getElem? ht)
   rw [stE_succ ht,fold_mem_E,ih,List.take_add_one,ht]
   obtain ⟨x,y,z⟩:=t
   rw [dirT_mem e1 e2 e3]
   simp only [Option.toList_some,List.mem_append,List.mem_singleton]
   constructor
   ·rintro (⟨h,t,h1,h2⟩|⟨h,h1⟩)
    ·exact⟨h,t,.inl h1,h2⟩
    ·exact⟨h,_,.inr rfl,h1⟩
   ·rintro ⟨h,t,h1|rfl,h2⟩
    ·exact .inl ⟨h,t,h1,h2⟩
    ·exact .inr ⟨h,h2⟩
def ltI (p q:Int×Int):Prop:=p.1<q.1∨p.1=q.1∧p.2<q.2
theorem sorted_ext {l m:List (Int×Int)} (h1:l.Pairwise ltI) (h2:m.Pairwise ltI) (h:∀p,p∈l↔p∈m):l=m:=by
 have nd:∀ {l:List (Int×Int)},l.Pairwise ltI→l.Nodup:=fun h=>h.imp (fun {a b} hab e=>by subst e;unfold ltI at hab;omega)
 refine List.Perm.eq_of_pairwise (le:=ltI) ?_ h1 h2 ((List.perm_ext_iff_of_nodup (nd h1) (nd h2)).2 h)
 intro a b _ _ hab hba
 unfold ltI at hab hba
 omega
theorem es_sorted {E es:List Edg} (hE:(ends E).Nodup) (hp:es.Perm E) (hs:es.Pairwise fun a b=> ¬ordE b a<0):(ends es).Pairwise ltI:=by
 have hn:(ends es).Nodup:=((hp.map _).nodup_iff).2 hE
 unfold ends at hn ⊢
 rw [List.pairwise_map]
 have hn':es.Pairwise fun a b=>(a.a,a.b)≠(b.a,b.b):=List.pairwise_map.1 hn
 refine(hs.and hn').imp ?_
 rintro a b ⟨h1,h2⟩
 rw [ordE_lt]at h1
 unfold ltI
 simp only [ne_eq,Prod.mk.injEq,not_and]at h2 ⊢
 omega
theorem es_unique {E es es':List Edg} (hE:(ends E).Nodup) (hp:es.Perm E) (hs:es.Pairwise fun a b=> ¬ordE b a<0) (hp':es'.Perm E) (hs':es'.Pairwise fun a b=> ¬ordE b a<0):es=es':=by
 refine List.Perm.eq_of_pairwise (le:=fun a b=>ltI (a.a,a.b) (b.a,b.b)) ?_ (List.pairwise_map.1 (es_sorted hE hp hs)) (List.pairwise_map.1 (es_sorted hE hp' hs')) (hp.trans hp'.symm)
 intro a b _ _ hab hba
 unfold ltI at hab hba
 simp only at hab hba
 omega
theorem rim_pairs {N:Nat} {l:List Tri} (hl:∀t∈l,goodT N t) {es:List Edg} (hp:es.Perm (stE l l.length)) (hs:es.Pairwise fun a b=> ¬ordE b a<0):
  ((rimOf (stC l l.length) es).map fun t=>((t.1:Int),(t.2.1:Int))).Pairwise ltI∧∀a b:Nat,((a:Int),(b:Int))∈(rimOf (stC l l.length) es).map (fun t=>((t.1:Int),(t.2.1:Int)))↔a<b∧(l.countP fun t=>has3 t a && has3 t b)=1:=by
 have hen:Ends N es:=fun e he=>stE_ends hl l.length e (hp.subset he)
 have e0:(rimOf (stC l l.length) es).map (fun t=>((t.1:Int),(t.2.1:Int)))=ends (es.filter fun e=>cntC (stC l l.length) e.a e.b == 1):=by
  unfold rimOf ends
  rw [List.map_map]
  refine List.map_congr_left fun e he=>?_
  obtain ⟨i,j,h1,h2,_⟩:=hen e (List.mem_filter.1 he).1
  simp [h1,h2]
 rw [e0]
 constructor
 ·unfold ends
  rw [List.pairwise_map]
  exact(List.pairwise_map.1 (es_sorted (stE_nodup l l.length) hp hs)).sublist List.filter_sublist
 ·intro a b
  have hm:=stE_mem hl a b l.length
  rw [List.take_length]at hm
  constructor
  ·intro h
   obtain ⟨e,he,h1⟩:=List.mem_map.1 h
   obtain ⟨he,hc⟩:=List.mem_filter.1 he
   simp only [Prod.mk.injEq]at h1
   obtain ⟨h1,h2⟩:=h1
   have hab:=(hm.1 (List.mem_map.2 ⟨e,hp.subset he,by rw [h1,h2]⟩)).1
   rw [h1,h2,stC_count hl hab,List.take_length]at hc
   exact⟨hab,by have:=eq_of_beq hc;omega⟩
  ·rintro ⟨hab,hc⟩
   have h1:((a:Int),(b:Int))∈ends (stE l l.length):=by
    rw [hm]
    refine⟨hab,?_⟩
    have h2:0<l.countP fun t=>has3 t a && has3 t b:=by omega
    rw [List.countP_pos_iff]at h2
    obtain ⟨t,ht,h3⟩:=h2
    simp only [Bool.and_eq_true]at h3
    exact⟨t,ht,h3⟩
   obtain ⟨e,he,h2⟩:=List.mem_map.1 h1
   simp only [Prod.mk.injEq]at h2
   refine List.mem_map.2 ⟨e,List.mem_filter.2 ⟨hp.symm.subset he,?_⟩,by rw [h2.1,h2.2]⟩
   rw [h2.1,h2.2,stC_count hl hab,List.take_length,hc]
   rfl
end Go.Proofs.YtjijceliboaeaaaGreatDoor
