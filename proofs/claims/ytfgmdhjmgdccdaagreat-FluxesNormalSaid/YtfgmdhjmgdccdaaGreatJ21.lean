/-
  Part 21 of the proof: SqG RimG.
-/
import Derived.Test.YtfgmdhjmgdccdaaGreatJ18
import Derived.Test.YtfgmdhjmgdccdaaGreatJ19
set_option linter.unusedSimpArgs false
set_option linter.unusedVariables false
namespace Go.Proofs.YtfgmdhjmgdccdaaGreat
open Go.RowKit Gus Go.Maps
theorem SR.off {α:Type} {enc:α→List Value} {k:Nat} {t:TypeId} {w:World} {B g n c:Nat} {l:List α} (h:SR enc k t w B (.slice (some ⟨g,0,none⟩) n c) l) {p:Addr} (hp:p.block≠g) (x:Value):SR enc k t (w.setCell p x) B (.slice (some ⟨g,0,none⟩) n c) l:=by
 rcases h with⟨h,_⟩|⟨g',cap,h1,h2,h3,h4,⟨N,h5⟩,h6⟩
 ·cases h
 ·injection h1 with e1 e2 e3
  cases e1
  refine .inr ⟨g,cap,by rw [e2,e3],h2,h3,h4,⟨N,h5.set p x⟩,fun j hj i u hu=>?_⟩
  have hb:(w.setCell p x).heap[g]? =w.heap[g]? :=Below.heap_setCell _ _ _ _ (by omega)
  exact(World.cell?_of_block (a:=⟨g,j*k+i,none⟩) hb).trans (h6 j hj i u hu)
end Go.Proofs.YtfgmdhjmgdccdaaGreat
namespace Go.Proofs.YtfgmdhjmgdccdaaGreat
open Go.RowKit Gus Go.Maps
noncomputable def kR:TypeId:=((Tryz.prog.underlying 186).bind fun| .map k _=>some k|_=>none).getD 0
theorem under_R:Tryz.prog.underlying 186=some (.map kR 3):=by kernel_rfl
theorem keyed_R:Keyed Tryz.prog kR:=Keyed.of_law (deep_law_laid (m:=9) (by kernel_rfl) (by omega) (of_decide_eq_true (by kernel_rfl)) (by kernel_rfl) (by kernel_rfl))
theorem keyOf_funR:(fun i j:Int=>keyOf Tryz.prog kR (.agg #[.int .i64 i,.int .i64 j]))=fun i j=>Option.map (fun ls=>Lit.string (keyBytes ls)) (Option.map List.flatten ([[Value.int .i64 i],[Value.int .i64 j]].mapM fun v=>Tryz.prog.keyLits 5 3 v)):=by kernel_rfl
theorem keyOf_R {i j:Nat} (hi:i<9223372036854775808) (hj:j<9223372036854775808):keyOf Tryz.prog kR (.agg #[.int .i64 (i:Int),.int .i64 (j:Int)])=some (klT i j):=by
 have h:=congrFun (congrFun keyOf_funR i) j
 simp only [List.mapM_cons,List.mapM_nil,keyLits_int 4 _ (wf_nat hi),keyLits_int 4 _ (wf_nat hj)]at h
 exact h
theorem wrap64_id {n:Int} (h1: -9223372036854775808≤n) (h2:n≤9223372036854775807):IntKind.i64.wrap n=n:=by
 have h3:(2:Int) ^ IntKind.bits .i64=18446744073709551616:=by decide
 have h4:(2:Int) ^ (IntKind.bits .i64 - 1)=9223372036854775808:=by decide
 have h5:IntKind.signed .i64=true:=rfl
 simp only [IntKind.wrap,h3,h4,h5,Bool.true_and,decide_eq_true_eq]
 split<;>omega
abbrev CE:=Int×Int×Int
abbrev eR (e:CE):Value×Value:=(endK e.1 e.2.1,.int .i64 e.2.2)
abbrev MIR (w:World) (b:Nat) (l:List CE):Prop:=MI Tryz.prog kR w b (l.map eR)
def keyC (a b:Nat) (c:CE):Bool:=c.1 == ((min a b:Nat):Int) && c.2.1 == ((max a b:Nat):Int)
def cstep (C:List CE) (d:DE):List CE:=match C.findIdx? (keyC d.1 d.2.1) with
 | some j=>match C[j]? with
  | some c=>C.set j (c.1,c.2.1,c.2.2+1)
  | none=>C
 | none=>C++ [(((min d.1 d.2.1:Nat):Int),((max d.1 d.2.1:Nat):Int),1)]
def stC (l:List Tri):Nat→List CE
 | 0=> []
 | n+1=>match l[n]? with
  | some t=>(dirT t n).foldl cstep (stC l n)
  | none=>stC l n
theorem stC_succ {l:List Tri} {n:Nat} {t:Tri} (h:l[n]? =some t):stC l (n+1)=(dirT t n).foldl cstep (stC l n):=by simp [stC,h]
theorem cstep_none {C:List CE} {a b t:Nat} (h:C.findIdx? (keyC a b)=none):cstep C (a,b,t)=C++ [(((min a b:Nat):Int),((max a b:Nat):Int),1)]:=by simp [cstep,h]
theorem cstep_some {C:List CE} {a b t j:Nat} {c:CE} (h:C.findIdx? (keyC a b)=some j) (hc:C[j]? =some c):cstep C (a,b,t)=C.set j (c.1,c.2.1,c.2.2+1):=by simp [cstep,h,hc]
theorem keyC_found {C:List CE} {a b j:Nat} (h:C.findIdx? (keyC a b)=some j):∃c,C[j]? =some c∧c.1=((min a b:Nat):Int)∧c.2.1=((max a b:Nat):Int):=by
 rw [List.findIdx?_eq_some_iff_getElem]at h
 obtain ⟨hj,hk,_⟩:=h
 refine⟨C[j],List.getElem?_eq_getElem hj,?_⟩
 simpa [keyC] using hk
theorem keyC_missed {C:List CE} {a b:Nat} (h:C.findIdx? (keyC a b)=none):∀p∈C.map eR,p.1≠endK ((min a b:Nat):Int) ((max a b:Nat):Int):=by
 rw [List.findIdx?_eq_none_iff]at h
 intro p hp e1
 obtain ⟨c,hc,rfl⟩:=List.mem_map.1 hp
 have:=h c hc
 simp [keyC,endK]at this e1
 exact this e1.1 e1.2
def Bnd (C:List CE) (m:Nat):Prop:=C.length≤m∧∀c∈C,0≤c.2.2∧c.2.2≤m
theorem cstep_bnd {C:List CE} {m:Nat} (h:Bnd C m) (d:DE):Bnd (cstep C d) (m+1):=by
 obtain ⟨h0,h⟩:=h
 unfold cstep
 split
 ·split
  ·rename_i c hc
   refine⟨by simp;omega,fun x hx=>?_⟩
   rcases List.mem_or_eq_of_mem_set hx with hx|rfl
   ·have:=h x hx;omega
   ·have:=h c (List.mem_of_getElem? hc);simp;omega
  ·exact⟨by omega,fun x hx=>by have:=h x hx;omega⟩
 ·refine⟨by simp;omega,fun x hx=>?_⟩
  simp only [List.mem_append,List.mem_singleton]at hx
  rcases hx with hx|rfl
  ·have:=h x hx;omega
  ·simp;omega
theorem foldC_bnd (D:List DE) {C:List CE} {m:Nat} (h:Bnd C m):Bnd (D.foldl cstep C) (m+D.length):=by
 induction D generalizing C m with
 | nil=>exact h
 | cons d D ih=>
  have:=ih (cstep_bnd h d)
  simpa [Nat.add_assoc,Nat.add_comm 1] using this
theorem Bnd.mono {C:List CE} {m n:Nat} (h:Bnd C m) (hn:m≤n):Bnd C n:=⟨by have:=h.1;omega,fun c hc=>by have:=h.2 c hc;omega⟩
theorem stC_bnd (l:List Tri) (n:Nat):Bnd (stC l n) (3*n):=by
 induction n with
 | zero=>exact⟨by simp [stC],by simp [stC]⟩
 | succ n ih=>
  simp only [stC]
  split
  ·exact(foldC_bnd _ ih).mono (by simp [dirT];omega)
  ·exact ih.mono (by omega)
def cntC (C:List CE) (a b:Int):Int:=match C.find? (fun c=>c.1 == a && c.2.1 == b) with
 | some c=>c.2.2
 | none=>0
def rimOf (C:List CE) (es:List Edg):List Tri:=(es.filter fun e=>cntC C e.a e.b == 1).map fun e=>(e.a.toNat,e.b.toNat,0)
theorem rimOf_succ {C:List CE} {es:List Edg} {j:Nat} {e:Edg} (h:es[j]? =some e):rimOf C (es.take (j+1))=rimOf C (es.take j)++(if cntC C e.a e.b=1 then [(e.a.toNat,e.b.toNat,0)]else []):=by
 unfold rimOf
 rw [List.take_add_one,h,List.filter_append,List.map_append]
 by_cases hc:cntC C e.a e.b=1
 ·simp [hc]
 ·simp [hc]
theorem rimOf_len (C:List CE) (es:List Edg):(rimOf C es).length≤es.length:=by
 unfold rimOf;rw [List.length_map];exact List.length_filter_le _ _
theorem cntC_look {C:List CE} {a b:Int} (hz:cntC C a b≠0∨∃c∈C,c.1=a∧c.2.1=b):(endK a b,Value.int .i64 (cntC C a b))∈C.map eR:=by
 unfold cntC at hz ⊢
 cases hf:C.find? (fun c=>c.1 == a && c.2.1 == b) with
 | none=>
  rw [hf]at hz
  rcases hz with h|⟨c,hc,h1,h2⟩
  ·exact absurd rfl h
  ·rw [List.find?_eq_none]at hf
   have:=hf c hc
   simp [h1,h2]at this
 | some c=>
  have h1:=List.find?_some hf
  have h2:=List.mem_of_find?_eq_some hf
  simp only [Bool.and_eq_true,beq_iff_eq]at h1
  exact List.mem_map.2 ⟨c,h2,by simp [eR,h1.1,h1.2]⟩
theorem cntC_zero {C:List CE} {a b:Int} (h:¬ ∃c∈C,c.1=a∧c.2.1=b):cntC C a b=0∧∀p∈C.map eR,p.1≠endK a b:=by
 constructor
 ·unfold cntC
  rw [List.find?_eq_none.2]
  intro c hc
  simp only [Bool.and_eq_true,beq_iff_eq]
  exact fun h1=>h ⟨c,hc,h1⟩
 ·intro p hp e1
  obtain ⟨c,hc,rfl⟩:=List.mem_map.1 hp
  simp [endK]at e1
  exact h ⟨c,hc,e1⟩
theorem RC.fE {w:World} {g:Nat} {l:List Edg} (h:RC eC 4 w g l) {j:Nat} (hj:j<l.length) {y:Edg} (hy:l[j]=y):w.cell? ⟨g,j*4,none⟩=some (.int .i64 y.a)∧w.cell? ⟨g,j*4+1,none⟩=some (.int .i64 y.b)∧w.cell? ⟨g,j*4+2,none⟩=some (.int .i64 y.l)∧w.cell? ⟨g,j*4+3,none⟩=some (.int .i64 y.r):=by
 subst hy
 exact⟨h j hj 0 _ rfl,h j hj 1 _ rfl,h j hj 2 _ rfl,h j hj 3 _ rfl⟩
def Ends (N:Nat) (E:List Edg):Prop:= ∀e∈E,∃i j:Nat,e.a=i∧e.b=j∧i<N∧j<N
theorem estep_ends {N:Nat} {E:List Edg} {d:DE} (h:Ends N E) (h1:d.1<N) (h2:d.2.1<N):Ends N (estep E d):=by
 obtain ⟨a,b,t⟩:=d
 dsimp only at h1 h2
 rcases hf:E.findIdx? (keyE a b)with _|j
 ·rw [estep_none hf]
  intro e he
  simp only [List.mem_append,List.mem_singleton]at he
  rcases he with he|rfl
  ·exact h e he
  ·rw [(updE_key a b t _).1,(updE_key a b t _).2]
   exact⟨min a b,max a b,rfl,rfl,by omega,by omega⟩
 ·obtain ⟨e,he,h3,h4⟩:=key_found hf
  rw [estep_some hf he]
  intro x hx
  rcases List.mem_or_eq_of_mem_set hx with hx|rfl
  ·exact h x hx
  ·rw [(updE_key a b t e).1,(updE_key a b t e).2]
   exact h e (List.mem_of_getElem? he)
theorem stE_ends {N:Nat} {l:List Tri} (hl:∀t∈l,goodT N t) (n:Nat):Ends N (stE l n):=by
 induction n with
 | zero=>intro e he;simp [stE]at he
 | succ n ih=>
  simp only [stE]
  split
  ·rename_i t ht
   obtain ⟨g1,g2,g3,_⟩:=hl t (List.mem_of_getElem? ht)
   simp only [dirT,List.foldl_cons,List.foldl_nil]
   exact estep_ends (estep_ends (estep_ends ih g1 g2) g2 g3) g3 g1
  ·exact ih
end Go.Proofs.YtfgmdhjmgdccdaaGreat
