/-
  Part 12 of the proof: Row Poly Gen MeshA.
-/
import Derived.Test.YtjijceliboaeaaaGreatDoorJ1
import Derived.Shelf.SlSortCmp.InsertionK
import Derived.Shelf.SlicesQ.Load
import Derived.Test.YtjijceliboaeaaaGreatDoorJ11
import Derived.Test.YtjijceliboaeaaaGreatDoorShelfB
import Derived.Test.YtjijceliboaeaaaGreatDoorShelfD
import Derived.Shelf.SlSortCmp.NoneTotal
import Derived.Maps.OwnSet
import Derived.Maps.OwnOps
import Derived.Maps.Views
import Derived.DeepKeys4
set_option linter.unusedSimpArgs false
set_option linter.unusedVariables false
namespace Go.Proofs.YtjijceliboaeaaaGreatDoor
open Go.RowKit
def Sh (w:World) (g:Nat) (t:TypeId) (N:Nat):Prop:= ∃cur:Array Value,w.heap[g]? =some (.cells cur t (0,0))∧cur.size=N
section
variable {w w':World} {g B N:Nat} {t:TypeId}
theorem Sh.lt (h:Sh w g t N):g<w.heap.size:=by obtain ⟨cur,hc,_⟩:=h;exact(Array.getElem?_eq_some_iff.1 hc).1
theorem Sh.gr (h:Sh w g t N) (hg:Gr B w w') (hB:g<B):Sh w' g t N:=by obtain ⟨cur,hc,hs⟩:=h;exact⟨cur,(hg.block g hB).trans hc,hs⟩
theorem Sh.set (h:Sh w g t N) (p:Addr) (v:Value):Sh (w.setCell p v) g t N:=by
 obtain ⟨cur,hc,hs⟩:=h
 by_cases e:p.block=g
 ·subst e
  refine⟨if p.spot.isSome then cur else cur.setIfInBounds p.off v,?_,by split<;>simpa using hs⟩
  simp [World.setCell,Array.getElem?_modify,hc]
 ·exact⟨cur,(Below.heap_setCell _ _ _ _ (fun e'=>e e'.symm)).trans hc,hs⟩
theorem Sh.sets (h:Sh w g t N) (b:Nat):∀(vs:List Value) (o:Nat),Sh (w.setCells b o vs) g t N:=by
 intro vs
 induction vs generalizing w with
 | nil=>intro o;exact h
 | cons v r ih=>intro o;exact ih (h.set _ _) _
theorem Sh.alloc (h:Sh w g t N) (o:Obj):Sh (w.alloc o) g t N:=h.gr (B:=w.heap.size) ((Gr.refl _ _).alloc (Nat.le_refl _) o) h.lt
theorem Sh.frozen (h:Sh w g t N) (o:Nat):w.frozen? ⟨g,o,none⟩=false:=by
 obtain ⟨cur,hc,_⟩:=h
 simp [World.frozen?,hc]
theorem Sh.some (h:Sh w g t N) {o:Nat} (ho:o<N):(w.cell? ⟨g,o,none⟩).isSome=true:=by
 obtain ⟨cur,hc,hs⟩:=h
 simp [World.cell?,hc,hs,ho]
theorem Sh.of_gr (h:Sh w g t N) (hg:Gr w.heap.size w w'):Sh w' g t N:=h.gr hg h.lt
end
def RC {α:Type} (enc:α→List Value) (k:Nat) (w:World) (g:Nat) (l:List α):Prop:=
 ∀j (hj:j<l.length) i u,(enc l[j])[i]? =some u→w.cell? ⟨g,j*k+i,none⟩=some u
def SL {α:Type} (enc:α→List Value) (k:Nat) (t:TypeId) (w:World) (B:Nat) (v:Value) (l:List α):Prop:=
 (v= .slice none 0 0∧l= [])∨∃g cap,v= .slice (some ⟨g,0,none⟩) l.length cap∧B≤g∧l.length≤cap∧cap≤maxLen∧Sh w g t (cap*k)∧RC enc k w g l
section
variable {α:Type} {enc:α→List Value} {k:Nat} {t:TypeId} {w w':World} {B C g:Nat} {v:Value} {l l':List α}
theorem RC.gr (h:RC enc k w g l) (hg:Gr C w w') (hC:g<C):RC enc k w' g l:=fun j hj i u hu=>(hg.cell (p:=⟨g,j*k+i,none⟩) hC).trans (h j hj i u hu)
theorem RC.take (h:RC enc k w g l) (n:Nat):RC enc k w g (l.take n):=fun j hj i u hu=>h j (by simp at hj;omega) i u (by rw [List.getElem_take]at hu;exact hu)
theorem RC.load (h:RC enc k w g l) (hk:∀x,(enc x).length=k) (P:Program) {j:Nat} (hj:j<l.length):Sem.run P (loadCellsFrom ⟨g,j*k,none⟩ 0 k #[]) w= .ok (enc l[j]).toArray w:=
 run_loadCellsFrom_list P _ _ (enc l[j]) k (hk _) fun i u hu=>by rw [Addr.add_lit];exact h j hj i u hu
theorem SL.nil:SL enc k t w B (.slice none 0 0) []:= .inl ⟨rfl,rfl⟩
theorem SL.gr (h:SL enc k t w B v l) (hg:Gr w.heap.size w w'):SL enc k t w' B v l:=by
 rcases h with h|⟨g,cap,h1,h2,h3,h4,h5,h6⟩
 ·exact .inl h
 ·exact .inr ⟨g,cap,h1,h2,h3,h4,h5.of_gr hg,h6.gr hg h5.lt⟩
theorem SL.mono (h:SL enc k t w B v l) (hB:C≤B):SL enc k t w C v l:=by
 rcases h with h|⟨g,cap,h1,h2,h3⟩
 ·exact .inl h
 ·exact .inr ⟨g,cap,h1,by omega,h3⟩
theorem SL.len (h:SL enc k t w B v l):l.length≤maxLen:=by
 rcases h with⟨_,rfl⟩|⟨g,cap,_,_,h3,h4,_⟩
 ·simp
 ·omega
theorem SL.block (h:SL enc k t w B v l) (hl:l≠ []):∃g cap,v= .slice (some ⟨g,0,none⟩) l.length cap∧B≤g∧l.length≤cap∧cap≤maxLen∧Sh w g t (cap*k)∧RC enc k w g l:=by
 rcases h with⟨_,h⟩|h
 ·exact absurd h hl
 ·exact h
theorem SL.at (h:SL enc k t w B v l):∃a cap,v= .slice a l.length cap:=by
 rcases h with⟨rfl,rfl⟩|⟨g,cap,h,_⟩
 ·exact⟨_,_,rfl⟩
 ·exact⟨_,_,h⟩
theorem flat_get (hk:∀x,(enc x).length=k):∀(l:List α) (j:Nat) (hj:j<l.length) (i:Nat),i<k→(l.flatMap enc)[j*k+i]? =(enc l[j])[i]?
 | [],_,hj,_,_=>absurd hj (Nat.not_lt_zero _)
 | x :: r,j,hj,i,hi=>by
  rw [List.flatMap_cons]
  cases j with
  | zero=>rw [Nat.zero_mul,Nat.zero_add,List.getElem?_append_left (by rw [hk];exact hi)];rfl
  | succ j=>
   rw [List.getElem?_append_right (by rw [hk,Nat.add_mul];omega),hk,show(j+1)*k+i - k=j*k+i by rw [Nat.add_mul];omega,flat_get hk r j (by simpa using hj) i hi]
   rfl
theorem flat_len (hk:∀x,(enc x).length=k):∀l:List α,(l.flatMap enc).length=l.length*k
 | []=>by simp
 | x :: r=>by rw [List.flatMap_cons,List.length_append,hk,flat_len hk r,List.length_cons,Nat.add_mul];omega
theorem RC.of_flat (hk:∀x,(enc x).length=k) (h:∀i u,(l.flatMap enc)[i]? =some u→w.cell? ⟨g,i,none⟩=some u):RC enc k w g l:=fun j hj i u hu=>
 h _ _ ((flat_get hk l j hj i (by have:=(List.getElem?_eq_some_iff.1 hu).1;rwa [hk]at this)).trans hu)
theorem RC.flat (hk:∀x,(enc x).length=k) (h:RC enc k w g l) (i:Nat) (u:Value) (hu:(l.flatMap enc)[i]? =some u):w.cell? ⟨g,i,none⟩=some u:=by
 have hi:=(List.getElem?_eq_some_iff.1 hu).1
 rw [flat_len hk]at hi
 have k0:0<k:=by rcases Nat.eq_zero_or_pos k with e|e;· subst e;simp at hi
                 ·exact e
 have hj:i / k<l.length:=Nat.div_lt_of_lt_mul (by rwa [Nat.mul_comm]at hi)
 have hm:=Nat.mod_lt i k0
 have e:i / k*k+i % k=i:=by rw [Nat.mul_comm];exact Nat.div_add_mod i k
 have:=flat_get hk l (i / k) hj (i % k) hm
 rw [e,hu]at this
 have:=h (i / k) hj (i % k) u this.symm
 rwa [e]at this
theorem SL.own (h:SL enc k t w B v l) (hk:∀x,(enc x).length=k):w.ownsRow B t k v l.length (l.flatMap enc):=by
 refine⟨flat_len hk l,?_⟩
 rcases h with⟨h,rfl⟩|⟨g,cap,h1,h2,h3,h4,⟨cur,hc,hs⟩,h6⟩
 ·exact .inl ⟨h,rfl⟩
 ·refine .inr ⟨g,cap,cur,h1,h2,hc,h3,h4,hs,?_⟩
  have hle:l.length*k≤cap*k:=Nat.mul_le_mul_right k h3
  refine List.ext_getElem? fun i=>?_
  by_cases hi:i<l.length*k
  ·rw [List.getElem?_take_of_lt hi]
   have hf:(l.flatMap enc)[i]? =some ((l.flatMap enc)[i]'(by rw [flat_len hk];exact hi)):=List.getElem?_eq_getElem _
   have:=RC.flat hk h6 i _ hf
   rw [hf,←this]
   simp [World.cell?,hc]
  ·rw [List.getElem?_take_eq_none (by omega),List.getElem?_eq_none (by rw [flat_len hk];omega)]
theorem SL.of_own (h:w.ownsRow B t k v l.length (l.flatMap enc)) (hk:∀x,(enc x).length=k):SL enc k t w B v l:=by
 rcases h.2 with⟨h1,h2⟩|⟨g,cap,cur,h1,h2,hc,h3,h4,hs,ht⟩
 ·exact .inl ⟨h1,List.eq_nil_of_length_eq_zero h2⟩
 ·refine .inr ⟨g,cap,h1,h2,h3,h4,⟨cur,hc,hs⟩,RC.of_flat hk fun i u hu=>?_⟩
  have hi:=(List.getElem?_eq_some_iff.1 hu).1
  rw [flat_len hk]at hi
  rw [←ht,List.getElem?_take_of_lt hi]at hu
  simp [World.cell?,hc]
  simpa using hu
theorem SL.new (hk:∀x,(enc x).length=k) (cs:List Value) (hcs:cs=l.flatMap enc) (hB:B≤w.heap.size) (hl:l.length≤maxLen):SL enc k t (w.alloc (.cells cs.toArray t)) B (.slice (some ⟨w.heap.size,0,none⟩) l.length l.length) l:=by
 subst hcs
 refine .inr ⟨_,_,rfl,hB,Nat.le_refl _,hl,⟨_,heap_alloc_new w _,by simp [←flat_len hk]⟩,RC.of_flat hk fun i u hu=>?_⟩
 simp [go_sem,hu]
theorem RC.put (h:RC enc k w g l) (hk:∀x,(enc x).length=k) {N:Nat} (hs:Sh w g t N) (hN:l.length*k≤N) {j:Nat} (hj:j<l.length) (x:α) (o:Nat) (cs:List Value) (hx:enc x=(enc l[j]).take o++cs++(enc l[j]).drop (o+cs.length)) (ho:o+cs.length≤k):
  RC enc k (w.setCells g (j*k+o) cs) g (l.set j x):=by
 intro j' hj' i u hu
 have hj2:j'<l.length:=by simpa using hj'
 have hik:i<k:=by have:=(List.getElem?_eq_some_iff.1 hu).1;rwa [hk]at this
 by_cases e:j'=j
 ·subst e
  rw [List.getElem_set_self,hx]at hu
  by_cases h1:o≤i∧i<o+cs.length
  ·rw [List.append_assoc,List.getElem?_append_right (by rw [List.length_take,hk];omega),List.length_take,hk,Nat.min_eq_left (by omega),List.getElem?_append_left (by omega)]at hu
   have hall:∀q,q<cs.length→(w.cell? ⟨g,j'*k+o+q,none⟩).isSome=true:=fun q hq=>hs.some (by
    have:=Nat.mul_le_mul_right k (show j'+1≤l.length from hj);rw [Nat.add_mul]at this;omega)
   have:=World.cell?_setCells_in g cs (j'*k+o) w hall (i - o) (by omega)
   rw [show j'*k+o+(i - o)=j'*k+i by omega]at this
   rw [this]
   rw [List.getElem?_eq_getElem (by omega)]at hu
   exact hu
  ·rw [World.cell?_setCells_out g cs _ w _ (fun _ _=>by show j'*k+i< _∨_≤j'*k+i;omega)]
   refine h j' hj i u ?_
   by_cases h2:i<o
   ·rw [List.append_assoc,List.getElem?_append_left (by rw [List.length_take,hk];omega),List.getElem?_take_of_lt h2]at hu
    exact hu
   ·rw [List.getElem?_append_right (by rw [List.length_append,List.length_take,hk];omega),List.length_append,List.length_take,hk,Nat.min_eq_left (by omega),List.getElem?_drop,show o+cs.length+(i - (o+cs.length))=i by omega]at hu
    exact hu
 ·rw [List.getElem_set_ne (fun e'=>e e'.symm)]at hu
  rw [World.cell?_setCells_out g cs _ w _ (fun _ _=>by
   show j'*k+i< _∨_≤j'*k+i
   rcases Nat.lt_or_gt_of_ne e with e1|e1
   ·have:=Nat.mul_le_mul_right k (show j'+1≤j from e1);rw [Nat.add_mul]at this;omega
   ·have:=Nat.mul_le_mul_right k (show j+1≤j' from e1);rw [Nat.add_mul]at this;omega)]
  exact h j' hj2 i u hu
theorem SL.put (h:SL enc k t w B (.slice (some ⟨g,0,none⟩) l.length C) l) (hk:∀x,(enc x).length=k) {j:Nat} (hj:j<l.length) (x:α) (o:Nat) (cs:List Value) (hx:enc x=(enc l[j]).take o++cs++(enc l[j]).drop (o+cs.length)) (ho:o+cs.length≤k):
  SL enc k t (w.setCells g (j*k+o) cs) B (.slice (some ⟨g,0,none⟩) l.length C) (l.set j x):=by
 rcases h with⟨h,_⟩|⟨g',cap,h1,h2,h3,h4,h5,h6⟩
 ·cases h
 ·cases h1
  exact .inr ⟨g,C,by simp,h2,by simpa using h3,h4,h5.sets _ _ _,h6.put hk h5 (Nat.mul_le_mul_right k h3) hj x o cs hx ho⟩
end
section
variable {α:Type} [Inhabited α] {enc:α→List Value} {k:Nat} {t:TypeId} {w w':World} {B C g:Nat} {v:Value} {l l':List α}
theorem RC.holds (h:RC enc k w g l) (hk:∀x,(enc x).length=k) (hf:∀o,w.frozen? ⟨g,o,none⟩=false):Sort.HoldsK enc k w g 0 l.toArray:=by
 intro q hq
 rw [Sort.size_flatK]at hq
 simp only [List.size_toArray]at hq
 have k0:0<k:=by rcases Nat.eq_zero_or_pos k with e|e;· subst e;simp at hq
                 ·exact e
 have hj:q / k<l.length:=Nat.div_lt_of_lt_mul (by rwa [Nat.mul_comm]at hq)
 have hm:=Nat.mod_lt q k0
 have e:q / k*k+q % k=q:=by rw [Nat.mul_comm];exact Nat.div_add_mod q k
 rw [Nat.zero_add]
 refine⟨?_,hf q⟩
 have h1:=h (q / k) hj (q % k) ((enc l[q / k])[q % k]'(by rw [hk];exact hm)) (List.getElem?_eq_getElem _)
 rw [e]at h1
 rw [h1,Sort.get_flatK _ _ _ _ (by simpa using hq)]
 simp [hj,hk,hm]
theorem RC.of_holds (h:Sort.HoldsK enc k w g 0 l.toArray) (hk:∀x,(enc x).length=k):RC enc k w g l:=by
 intro j hj i u hu
 have hi:=(List.getElem?_eq_some_iff.1 hu).1
 rw [hk]at hi
 have:=(h.cell (i:=j) (c:=i) (by simpa using hj) hi).1
 rw [Nat.zero_add]at this
 rw [this]
 simp only [List.getElem!_toArray,List.getElem!_eq_getElem?_getD,List.getElem?_eq_getElem hj,Option.getD_some,hu]
theorem Sh.sorted {N:Nat} (h:Sh w g t N) (n:Nat) (d:Array α) (os:Array Obj):Sh (sortWorldK enc k w g 0 n d os) g t N:=by
 obtain ⟨cur,hc,hs⟩:=h
 have hg:g<w.heap.size:=(Array.getElem?_eq_some_iff.1 hc).1
 refine⟨Sort.putCells id 0 (Sort.flatK enc k d) cur,?_,by simp [Sort.putCells,hs]⟩
 unfold sortWorldK Sort.putRowK
 rw [Sort.heap_grow_old _ _ (by simpa using hg)]
 simp [Sort.putRow,Sort.mapBlock,Sort.ahead,Array.getElem?_modify,hc,Sort.onCells]
theorem Gr.sorted (hg:B≤g) (hl:g<w.heap.size) (n:Nat) (d:Array α) (os:Array Obj):Gr B w (sortWorldK enc k w g 0 n d os):=by
 refine⟨rfl,rfl,rfl,by simp [sortWorldK,Sort.putRowK,Sort.putRow,Sort.mapBlock,Sort.ahead,Sort.grow],by simp [sortWorldK,Sort.putRowK,Sort.putRow,Sort.mapBlock,Sort.ahead,Sort.grow],fun i hi=>?_⟩
 unfold sortWorldK Sort.putRowK
 rw [Sort.heap_grow_old _ _ (by simp;omega)]
 have:g≠i:=by omega
 simp [Sort.putRow,Sort.mapBlock,Sort.ahead,Array.getElem?_modify,this]
theorem SL.sorted (h:SL enc k t w B (.slice (some ⟨g,0,none⟩) l.length C) l) (hk:∀x,(enc x).length=k) (n:Nat) (d:Array α) (hd:d.size=l.length) (os:Array Obj):
  SL enc k t (sortWorldK enc k w g 0 n d os) B (.slice (some ⟨g,0,none⟩) l.length C) d.toList:=by
 rcases h with⟨h,_⟩|⟨g',cap,h1,h2,h3,h4,h5,h6⟩
 ·cases h
 ·cases h1
  refine .inr ⟨g,C,by simp [hd],h2,by simpa [hd] using h3,h4,h5.sorted n d os,RC.of_holds ?_ hk⟩
  rw [Array.toArray_toList]
  unfold sortWorldK
  have h7:=RC.holds h6 hk h5.frozen
  exact Sort.holdsK_grow enc k _ os g 0 d (by simpa [Sort.putRowK,Sort.putRow,Sort.mapBlock,Sort.ahead] using h5.lt) (Sort.holdsK_putRowK enc k _ g 0 l.toArray d (Sort.holdsK_ahead enc k w n g 0 _ h7) (by simpa using hd))
end
end Go.Proofs.YtjijceliboaeaaaGreatDoor
namespace Gus
structure T where
 i:Nat
 j:Nat
 c:Rat
deriving DecidableEq
instance:Inhabited T:=⟨⟨0,0,0⟩⟩
def T.ok (t:T):Prop:=t.i+t.j≤12
instance (t:T):Decidable t.ok:=inferInstanceAs (Decidable (_≤_))
def T.scale (k:Rat) (t:T):T:=⟨t.i,t.j,k*t.c⟩
def T.dx (t:T):T:=⟨t.i - 1,t.j,t.c*((t.i:Int):Rat)⟩
def T.dy (t:T):T:=⟨t.i,t.j - 1,t.c*((t.j:Int):Rat)⟩
def T.at (t:T) (i j:Nat):Bool:=t.i == i && t.j == j
def ordT (a b:T):Int:=
 if a.i+a.j<b.i+b.j then -1 else if a.i+a.j=b.i+b.j then(if a.j<b.j then -1 else if a.j=b.j then 0 else 1)else 1
def ltT (a b:T):Prop:=a.i+a.j<b.i+b.j∨a.i+a.j=b.i+b.j∧a.j<b.j
instance (a b:T):Decidable (ltT a b):=inferInstanceAs (Decidable (_∨_))
def addT:List T→T→List T
 | [],t=> [⟨t.i,t.j,0+t.c⟩]
 | h :: r,t=>if h.i=t.i∧h.j=t.j then⟨h.i,h.j,h.c+t.c⟩ :: r else h :: addT r t
def gather (l:List T):List T:=l.foldl addT []
def kept (l:List T):List T:=l.filter fun t=> !decide (t.c=0)
def insT (t:T):List T→List T
 | []=> [t]
 | h :: r=>if ltT t h then t :: h :: r else h :: insT t r
def sortT (l:List T):List T:=l.foldr insT []
def gat (l:List T):List T:=sortT (kept (gather l))
def Apart (l:List T):Prop:=l.Pairwise fun a b=> ¬(a.i=b.i∧a.j=b.j)
def Sorted (l:List T):Prop:=l.Pairwise ltT
structure Nf (l:List T):Prop where
 sorted:Sorted l
 nz:∀t∈l,t.c≠0
 ok:∀t∈l,t.ok
def cf:List T→Nat→Nat→Rat
 | [],_,_=>0
 | t :: r,i,j=>(if t.i=i∧t.j=j then t.c else 0)+cf r i j
theorem addT_mem {t x:T}:∀ {l:List T},x∈addT l t→(∃y∈l,x.i=y.i∧x.j=y.j)∨(x.i=t.i∧x.j=t.j)
 | [],h=>by simp [addT]at h;subst h;exact .inr ⟨rfl,rfl⟩
 | y :: r,h=>by
  unfold addT at h
  split at h
  ·rcases List.mem_cons.1 h with e|e
   ·subst e;exact .inl ⟨y,List.mem_cons_self,rfl,rfl⟩
   ·exact .inl ⟨x,List.mem_cons_of_mem _ e,rfl,rfl⟩
  ·rcases List.mem_cons.1 h with e|e
   ·exact .inl ⟨y,List.mem_cons_self,by rw [e];exact⟨rfl,rfl⟩⟩
   ·rcases addT_mem e with⟨z,hz,h2⟩|h2
    ·exact .inl ⟨z,List.mem_cons_of_mem _ hz,h2⟩
    ·exact .inr h2
theorem fold_mem {x:T}:∀(l acc:List T),x∈l.foldl addT acc→(∃y∈acc,x.i=y.i∧x.j=y.j)∨(∃y∈l,x.i=y.i∧x.j=y.j)
 | [],_,h=> .inl ⟨x,h,rfl,rfl⟩
 | t :: r,acc,h=>by
  rw [List.foldl_cons]at h
  rcases fold_mem r _ h with⟨y,hy,h2⟩|⟨y,hy,h2⟩
  ·rcases addT_mem hy with⟨z,hz,h3⟩|h3
   ·exact .inl ⟨z,hz,h2.1.trans h3.1,h2.2.trans h3.2⟩
   ·exact .inr ⟨t,List.mem_cons_self,h2.1.trans h3.1,h2.2.trans h3.2⟩
  ·exact .inr ⟨y,List.mem_cons_of_mem _ hy,h2⟩
end Gus
namespace Go.Proofs.YtjijceliboaeaaaGreatDoor
open Go.RowKit Gus Go.Maps
abbrev f3V (n0:Int) (m0:Nat) (n1:Int) (m1:Nat) (n2:Int) (m2:Nat):Value:= .agg #[.int .u64 (lowN (sz n0)),.string (bigS (sz n0)),.bool (ng n0),.int .u64 (lowN m0),.string (bigS m0),.int .u64 (lowN (sz n1)),.string (bigS (sz n1)),.bool (ng n1),.int .u64 (lowN m1),.string (bigS m1),.int .u64 (lowN (sz n2)),.string (bigS (sz n2)),.bool (ng n2),.int .u64 (lowN m2),.string (bigS m2)]
abbrev k3V (a b c:Rat):Value:=f3V a.num (fm a) b.num (fm b) c.num (fm c)
def idxP {α:Type} (p:α→Bool) (l:List α):Int:=match l.findIdx? p with|some i=>(i:Int)|none=> -1
def Tells {α:Type} (enc:α→Value) (F:FuncId) (cb:Array Value) (p:α→Bool) (w:World):Prop:=
 (∀args w,(callFunc F args).run Tryz.prog w= .ok (.enter F args) w)∧∀W,Gr w.heap.size w W→∀x,Calls Tryz.prog F (#[enc x]++cb) W (Ret W (.bool (p x)))
theorem Gr.sets {B g:Nat} {a:World} (hg:B≤g):∀(vs:List Value) (o:Nat) {w:World},Gr B a w→Gr B a (w.setCells g o vs)
 | [],_,_,h=>h
 | _ :: r,o,_,h=>Gr.sets hg r (o+1) (h.setCell hg _)
theorem Gr.grown {w w':World} (h:Gr w.heap.size w w'):∃q os,w'=Sort.grow (w.drewN q) os:=by
 refine⟨w'.drawn - w.drawn,w'.heap.extract w.heap.size w'.heap.size,?_⟩
 have hh:w'.heap=w.heap++w'.heap.extract w.heap.size w'.heap.size:=by
  apply Array.ext_getElem?
  intro i
  by_cases hi:i<w.heap.size
  ·rw [Array.getElem?_append_left hi,h.block i hi]
  ·rw [Array.getElem?_append_right (by omega),Array.getElem?_extract]
   have:=h.size
   by_cases h2:i<w'.heap.size
   ·rw [if_pos (by omega),show w.heap.size+(i - w.heap.size)=i by omega]
   ·rw [if_neg (by omega),Array.getElem?_eq_none (by omega)]
 have hd:=h.drawn
 cases w with|mk heap tape drawn os output=>cases w' with|mk heap' tape' drawn' os' output'=>
 have h1:=h.os;have h2:=h.tape;have h3:=h.output
 simp only at h1 h2 h3 hh hd
 subst h1 h2 h3
 simp only [Sort.grow,World.drewN]
 rw [←hh,Nat.add_sub_cancel' hd]
def Orders {α:Type} (enc:α→Value) (F:FuncId) (cb:Array Value) (cf:α→α→Int):Prop:=
 (∀args w,(callFunc F args).run Tryz.prog w= .ok (.enter F args) w)∧∀(W:World) x y,Calls Tryz.prog F (#[enc x,enc y]++cb) W (Ret W (.int .i64 (cf x y)))
theorem Orders.lays {α:Type} [Inhabited α] {enc:α→List Value} {k:Nat} {F:FuncId} {cb:Array Value} {cf:α→α→Int} (h:Orders (fun x=> .agg (enc x).toArray) F cb cf) (blk off size:Nat) (w:World):CmpLays Tryz.prog F cb enc k cf blk off size w:=
 fun _ _ _ _ x y=>(h.2 _ x y).mono fun _ _ ⟨h1,h2⟩=>⟨h1,h2.grown⟩
structure Kp (w w':World) (row:Option Nat):Prop where
 g:w.grownBy w' row
 d:w.drawn≤w'.drawn
section
variable {w w' w2:World} {row:Option Nat} {B:Nat}
theorem Kp.gr (h:Kp w w' row) (hB:∀b,row=some b→B≤b) (hw:B≤w.heap.size):Gr B w w':=
 ⟨h.g.os,h.g.tape,h.g.output,h.d,h.g.size,fun k hk=>h.g.block k (by omega) (fun e=>by have:=hB k e.symm;omega)⟩
theorem Kp.alloc (w:World) (o:Obj):Kp w (w.alloc o) none:=⟨World.grownBy_alloc w o none,Nat.le_refl _⟩
theorem Kp.cell (h:Kp w w' row) {b o:Nat} (hb:b<w.heap.size) (hne:some b≠row):w'.cell? ⟨b,o,none⟩=w.cell? ⟨b,o,none⟩:=World.cell?_of_block (a:=⟨b,o,none⟩) (h.g.block b hb hne)
theorem Kp.sh {g N:Nat} {t:TypeId} (h:Kp w w' row) (hS:Sh w g t N) (hne:some g≠row):Sh w' g t N:=by
 obtain ⟨cur,hc,hs⟩:=hS
 exact⟨cur,(h.g.block g (Array.getElem?_eq_some_iff.1 hc).1 hne).trans hc,hs⟩
theorem Kp.rc {α:Type} {enc:α→List Value} {k g:Nat} {l:List α} (h:Kp w w' row) (hR:RC enc k w g l) (hg:g<w.heap.size) (hne:some g≠row):RC enc k w' g l:=fun j hj i u hu=>(h.cell hg hne).trans (hR j hj i u hu)
theorem Kp.sl {α:Type} {enc:α→List Value} {k:Nat} {t:TypeId} {v:Value} {l:List α} (h:Kp w w' row) (hS:SL enc k t w B v l) (hne:∀g,v.ownBlock=some g→some g≠row):SL enc k t w' B v l:=by
 rcases hS with hS|⟨g,cap,h1,h2,h3,h4,h5,h6⟩
 ·exact .inl hS
 ·have:=hne g (by rw [h1];rfl)
  exact .inr ⟨g,cap,h1,h2,h3,h4,h.sh h5 this,h.rc h6 h5.lt this⟩
end
section
variable {P:Program} (w:World) {ops:Array Oper} {rest:List Oper} {o:Oper} {a:Act} {Q:Exit→Act→World→Prop}
theorem wpList_appS {α:Type} {enc:α→List Value} {k:Nat} {t:TypeId} (hg:o.guard=none) (s x:Operand) (ts:TypeId) (hop:o.op= .call {callee:= .builtin .append,args:= #[s,x],argTypes:= #[ts,ts]})
  (B:Nat) (i:TypeInfo) (z:Value) (bytes:Nat) (ht:P.underlying ts=some (.slice t)) (hi:P.info? t=some i) (hz:i.zero=some z) (hsize:i.size=k) (hby:i.bytes=bytes) (hzs:z.cells.size=k) (hk0:0<k) (hk:∀x,(enc x).length=k) (h1:∀x,∀v∈enc x,v.oneCell'=true)
  (v:Value) (l:List α) (hs:a.eval s=v) (hS:SL enc k t w B v l) (gx c:Nat) (l2:List α) (n2:Nat) (hn2:n2=l2.length) (hx:a.eval x= .slice (some ⟨gx,0,none⟩) n2 c) (hR:RC enc k w gx l2) (h63:l.length+l2.length≤maxLen) (hbytes:(l.length+l2.length)*bytes≤140737488355328) (hB:B≤w.heap.size)
  (h:∀v' w',SL enc k t w' B v' (l++l2)→Kp w w' v.ownBlock→(v'.ownBlock=v.ownBlock∨v'.ownBlock=some w.heap.size)→wpList P ops Q rest (a.put o.dst v') w'):wpList P ops Q (o :: rest) a w:=by
 subst hn2
 refine wpList_app w hg s x ts hop B t i z k bytes ht hi hz hsize hby hzs hk0 v l.length (l.flatMap enc) hs (hS.own hk) ⟨gx,0,none⟩ l2.length c (l2.flatMap enc) hx (flat_len hk l2) (fun j u hj=>by rw [Addr.add_lit,Nat.zero_add];exact hR.flat hk j u hj) (fun u hu=>by
  obtain ⟨y,_,hy⟩:=List.mem_flatMap.1 hu
  exact h1 y u hy) h63 hbytes hB (fun v' w' hap=>h v' w' (SL.of_own ?_ hk) ⟨hap.by_,hap.drawn⟩ hap.at_)
 rw [List.length_append,List.flatMap_append]
 exact hap.own
end
def klT (i j:Nat):Lit:= .string (keyBytes [.int .i64 (i:Int),.int .i64 (j:Int)])
theorem zeroInt (w:World):(zeroValue 3).run Tryz.prog w= .ok (.int .i64 0) w:=Tryz.zeroValue3 w
theorem SL.new' {α:Type} {enc:α→List Value} {k:Nat} {t:TypeId} {w:World} {B:Nat} {l:List α} {g n:Nat} (hk:∀x,(enc x).length=k) (cs:List Value) (hcs:cs=l.flatMap enc) (hg:g=w.heap.size) (hB:B≤g) (hl:l.length≤maxLen) (hn:n=l.length):SL enc k t (w.alloc (.cells cs.toArray t)) B (.slice (some ⟨g,0,none⟩) n n) l:=by
 subst hg hn
 exact SL.new hk cs hcs hB hl
theorem RC.new1 {α:Type} {enc:α→List Value} {k:Nat} {t:TypeId} {w:World} {x:α} {cs:List Value} (h:enc x=cs):RC enc k (w.alloc (.cells cs.toArray t)) w.heap.size [x]:=by
 subst h
 intro j hj i u hu
 simp only [List.length_singleton]at hj
 obtain rfl:j=0:=by omega
 simp only [List.getElem_cons_zero]at hu
 simp [go_sem,hu]
theorem SL.own_ge {α:Type} {enc:α→List Value} {k:Nat} {t:TypeId} {w:World} {B g:Nat} {v:Value} {l:List α} (h:SL enc k t w B v l) (hg:v.ownBlock=some g):B≤g:=by
 rcases h with⟨rfl,_⟩|⟨g',cap,rfl,h2,_⟩
 ·cases hg
 ·cases hg;exact h2
theorem SL.far {α:Type} {enc:α→List Value} {k:Nat} {t:TypeId} {w:World} {B:Nat} {v:Value} {l:List α} (h:SL enc k t w B v l) {p:Addr} (hp:p.block<B) (x:Value):SL enc k t (w.setCell p x) B v l:=by
 rcases h with h|⟨g,cap,h1,h2,h3,h4,h5,h6⟩
 ·exact .inl h
 ·refine .inr ⟨g,cap,h1,h2,h3,h4,h5.set p x,fun j hj i u hu=>?_⟩
  have hb:(w.setCell p x).heap[g]? =w.heap[g]? :=Below.heap_setCell _ _ _ _ (by omega)
  exact(World.cell?_of_block (a:=⟨g,j*k+i,none⟩) hb).trans (h6 j hj i u hu)
def hasT (t:Nat×Nat×Nat) (a:Nat):Bool:=([(t.1:Int),(t.2.1:Int),(t.2.2:Int)]).contains (a:Int)
theorem contains3 (t:Nat×Nat×Nat) (a:Nat) (g o c:Nat) (w:World) (h0:w.cell? ⟨g,o,none⟩=some (.int .i64 (t.1:Int))) (h1:w.cell? ⟨g,o+1,none⟩=some (.int .i64 (t.2.1:Int))) (h2:w.cell? ⟨g,o+2,none⟩=some (.int .i64 (t.2.2:Int))):
  Calls Tryz.prog 70 #[.slice (some ⟨g,o,none⟩) 3 c,.int .i64 (a:Int)] w (Ret w (.bool (hasT t a))):=
 (Tryz.slices_Contains_int g o 3 c [(t.1:Int),(t.2.1:Int),(t.2.2:Int)] (a:Int) w (by simp) (by omega) (fun j hj=>by
  match j,hj with
  | 0,_=>simpa using h0
  | 1,_=>simpa using h1
  | 2,_=>simpa using h2)).mono fun _ _ ⟨e,hw⟩=>⟨e,hw ▸ Gr.refl _ _⟩
end Go.Proofs.YtjijceliboaeaaaGreatDoor
namespace Go.Proofs.YtjijceliboaeaaaGreatDoor
open Go.RowKit Gus
abbrev triC (t:Nat×Nat×Nat):List Value:= [.int .i64 (t.1:Int),.int .i64 (t.2.1:Int),.int .i64 (t.2.2:Int)]
abbrev triV (t:Nat×Nat×Nat):Value:= .agg (triC t).toArray
def goodT (n:Nat) (t:Nat×Nat×Nat):Prop:=t.1<n∧t.2.1<n∧t.2.2<n∧t.1≠t.2.1∧t.2.1≠t.2.2∧t.2.2≠t.1
instance (n:Nat) (t:Nat×Nat×Nat):Decidable (goodT n t):=inferInstanceAs (Decidable (_∧_))
set_option maxRecDepth 20000 in
set_option maxHeartbeats 4000000 in
theorem point_raw {p m:Int} (h0:0≤p) (h1:p<m) (w:World):Calls Tryz.prog 25 #[.int .i64 p,.int .i64 m] w (Ret w (.bool true)):=by
 go_enter Tryz.func25,Tryz.ntmps25
 go_wp2
 go_ret
 exact⟨rfl,by(with_reducible (repeat' (first|exact Gr.refl _ _|refine Gr.drew ?_|refine Gr.setCell ?_ ?_ _|refine Gr.alloc ?_ ?_ _|omega|(simp;done)|(simp;omega))))⟩
set_option maxRecDepth 20000 in
set_option maxHeartbeats 4000000 in
theorem good_raw {i j k m:Int} {g:Nat} (h1:∀w,Calls Tryz.prog 25 #[.int .i64 i,.int .i64 m] w (Ret w (.bool true))) (h2:∀w,Calls Tryz.prog 25 #[.int .i64 j,.int .i64 m] w (Ret w (.bool true))) (h3:∀w,Calls Tryz.prog 25 #[.int .i64 k,.int .i64 m] w (Ret w (.bool true)))
  (e1:(i == j)=false) (e2:(j == k)=false) (e3:(k == i)=false) (w:World) (hg:g<w.heap.size) (hc:w.cell? ⟨g,0,none⟩=some (.int .i64 m)):
  Calls Tryz.prog 75 #[.agg #[.int .i64 i,.int .i64 j,.int .i64 k],.pointer (some ⟨g,0,none⟩)] w (Ret w (.bool false)):=by
 have h1:=Lib.hid h1
 have h2:=Lib.hid h2
 have h3:=Lib.hid h3
 have hg1:g<w.heap.size+1:=by omega
 go_enter Tryz.func75,Tryz.ntmps75
 go_wp2_with fail
 (refine(h1.out _).mono ?_;rintro e w1 ⟨rfl,hg1⟩;(try (with_reducible replace hg1:=Gr.of_drew hg1));have hsz1:=hg1.size;(try simp at hsz1);have hy1_0:g<w1.heap.size:=(by omega);have hz1_0:w.heap.size<w1.heap.size:=(by omega);obtain ⟨hc1,hf1⟩:=hg1.cells;have HG1:=Lib.hid hg1;clear hg1)
 go_wp2_with fail
 (refine(h2.out _).mono ?_;rintro e w2 ⟨rfl,hg2⟩;(try (with_reducible replace hg2:=Gr.of_drew hg2));have hsz2:=hg2.size;(try simp at hsz2);have hy2_0:g<w2.heap.size:=(by omega);have hz2_0:w.heap.size<w2.heap.size:=(by omega);obtain ⟨hc2,hf2⟩:=hg2.cells;have HG2:=Lib.hid hg2;clear hg2)
 go_wp2_with fail
 (refine(h3.out _).mono ?_;rintro e w3 ⟨rfl,hg3⟩;(try (with_reducible replace hg3:=Gr.of_drew hg3));have hsz3:=hg3.size;(try simp at hsz3);have hy3_0:g<w3.heap.size:=(by omega);have hz3_0:w.heap.size<w3.heap.size:=(by omega);obtain ⟨hc3,hf3⟩:=hg3.cells;have HG3:=Lib.hid hg3;clear hg3)
 go_wp2
 go_ret
 exact⟨rfl,by(with_reducible (repeat' (first|exact Gr.refl _ _|refine Gr.drew ?_|refine Gr.setCell ?_ ?_ _|refine Gr.alloc ?_ ?_ _|refine Gr.trans ?_ (Gr.mono HG3.out ?_)|refine Gr.trans ?_ (Gr.mono HG2.out ?_)|refine Gr.trans ?_ (Gr.mono HG1.out ?_)|omega|(simp;done)|(simp;omega))))⟩
theorem ms_good (t:Nat×Nat×Nat) (n g:Nat) (h:goodT n t) (w:World) (hg:g<w.heap.size) (hc:w.cell? ⟨g,0,none⟩=some (.int .i64 (n:Int))):Calls Tryz.prog 75 #[triV t,.pointer (some ⟨g,0,none⟩)] w (Ret w (.bool false)):=by
 obtain ⟨a,b,c,d,e,f⟩:=h
 exact good_raw (fun w=>point_raw (by omega) (by omega) w) (fun w=>point_raw (by omega) (by omega) w) (fun w=>point_raw (by omega) (by omega) w) (by simp;omega) (by simp;omega) (by simp;omega) w hg hc
end Go.Proofs.YtjijceliboaeaaaGreatDoor
