/-
  Part 18 of the proof: MapL EdgeG EdgP.
-/
import Derived.Test.YtfgmdhjmgdccdaaGreatJ15
import Derived.Test.YtfgmdhjmgdccdaaGreatJ14
import Derived.Maps.RangeWalk
import Derived.WideKeyEntry
import Derived.Test.YtfgmdhjmgdccdaaGreatJ17
set_option linter.unusedSimpArgs false
set_option linter.unusedVariables false
set_option maxHeartbeats 8000000
namespace Go.Proofs.YtfgmdhjmgdccdaaGreat
open Go.RowKit Gus Go.Maps Go.ChangeMaps Go.MapKept
open Go.WideElems (Fit rd rg pl rd_key rd_val rg_of rd_mk other_key)
def R0:Value→Option (DataW Unit×List MemPlace):=fun _=>some (.agg [],[])
abbrev kvs (es:Array MapEntry):List (Value×Value):=es.toList.map fun e=>(e.key,e.val)
def MI (P:Program) (k:TypeId) (w:World) (b:Nat) (l:List (Value×Value)):Prop:= ∃es clock,w.heap[b]? =some (.map es clock)∧Fit P k R0 es clock∧kvs es=l
section
variable {P:Program} {k t e:TypeId} {w w':World} {b B:Nat} {l:List (Value×Value)}
theorem MI.lt (h:MI P k w b l):b<w.heap.size:=by obtain ⟨es,clock,hb,_⟩:=h;exact(Array.getElem?_eq_some_iff.1 hb).1
theorem MI.gr (h:MI P k w b l) (hg:Gr B w w') (hB:b<B):MI P k w' b l:=by obtain ⟨es,clock,hb,h2⟩:=h;exact⟨es,clock,(hg.block b hB).trans hb,h2⟩
theorem MI.kp {row:Option Nat} (h:MI P k w b l) (hk:Kp w w' row) (hne:some b≠row):MI P k w' b l:=by
 have hlt:=h.lt
 obtain ⟨es,clock,hb,h2⟩:=h;exact⟨es,clock,(hk.g.block b hlt hne).trans hb,h2⟩
theorem MI.alloc (h:MI P k w b l) (o:Obj):MI P k (w.alloc o) b l:=h.gr (B:=w.heap.size) ((Gr.refl _ _).alloc (Nat.le_refl _) o) h.lt
theorem MI.drew (h:MI P k w b l):MI P k w.drew b l:=h
theorem MI.far (h:MI P k w b l) {p:Addr} (hp:p.block≠b) (v:Value):MI P k (w.setCell p v) b l:=by
 obtain ⟨es,clock,hb,h2⟩:=h
 exact⟨es,clock,(Below.heap_setCell _ _ _ _ (fun e=>hp e.symm)).trans hb,h2⟩
theorem MI.new (w:World) (P:Program) (k:TypeId):MI P k (w.alloc (.map #[] 0)) w.heap.size []:=⟨#[],0,(MapKept.heap_alloc w _).1,⟨by simp,stamped_empty 0,by simp⟩,rfl⟩
theorem MI.new' {g:Nat} (w:World) (P:Program) (k:TypeId) (hg:g=w.heap.size):MI P k (w.alloc (.map #[] 0)) g []:=by subst hg;exact MI.new w P k
theorem MI.look_none (c:Bool) (h:MI P k w b l) (K:Keyed P k) (ht:P.underlying t=some (.map k e)) {z:Value} (hz:(zeroValue e).run P w= .ok z w) {key:Value} {kl:Lit} (hkey:keyOf P k key=some kl) (hn:∀p∈l,p.1≠key):
  (Instr.lookup t (.map (some b)) key c).run P w= .ok (if c then .tuple #[z,.bool false]else z) w:=by
 obtain ⟨es,clock,hb,F,rfl⟩:=h
 rcases fit_look c K ht hz hb F hkey with⟨hrun,_⟩|⟨e0,y,hm,hk,_⟩
 ·exact hrun
 ·exact absurd hk (hn _ (List.mem_map.2 ⟨e0,hm,rfl⟩))
theorem MI.look_some (c:Bool) (h:MI P k w b l) (K:Keyed P k) (ht:P.underlying t=some (.map k e)) {z:Value} (hz:(zeroValue e).run P w= .ok z w) {key v:Value} {kl:Lit} (hkey:keyOf P k key=some kl) (hm:(key,v)∈l):
  (Instr.lookup t (.map (some b)) key c).run P w= .ok (if c then .tuple #[v,.bool true]else v) w:=by
 obtain ⟨es,clock,hb,F,rfl⟩:=h
 obtain ⟨e1,hm1,he1⟩:=List.mem_map.1 hm
 simp only [Prod.mk.injEq]at he1
 rcases fit_look c K ht hz hb F hkey with⟨_,hn,_⟩|⟨e0,y,hm0,hk,hrun,_⟩
 ·exact absurd he1.1 (hn _ hm1)
 ·have:=entry_eq_of_key ((stamped_iff es clock).1 F.stamped).2.2 hm1 hm0 (he1.1.trans hk.symm)
  rw [←this,he1.2]at hrun
  exact hrun
theorem map_upd (K:Keyed P k) (ht:P.underlying t=some (.map k e)) {key val:Value} {kl:Lit} (hkey:keyOf P k key=some kl) {es:Array MapEntry} {clock:Nat} (hb:w.heap[b]? =some (.map es clock)) (F:Fit P k R0 es clock) (hroom:es.size<maxLen):
  ((∀x∈es.toList,x.key≠key)∧∃es',∃clock',(Instr.mapUpdate t (.map (some b)) key val).run P w= .ok () (setBlock w b (.map es' clock'))∧Fit P k R0 es' clock'∧kvs es'=kvs es++ [(key,val)])∨
  ∃(j:Nat) (e0:MapEntry),∃es',∃clock',es.toList[j]? =some e0∧e0.key=key∧(Instr.mapUpdate t (.map (some b)) key val).run P w= .ok () (setBlock w b (.map es' clock'))∧Fit P k R0 es' clock'∧kvs es'=(kvs es).set j (key,val):=by
 have hrd:∀x∈es.toList,∃l,keyOf P k x.key=some l:=F.keys
 rcases K.find w hkey es.toList F.keys with⟨h1,h2⟩|⟨j,e0,h1,h2,h3⟩
 ·refine .inl ⟨h2,es.push ⟨key,val,clock⟩,clock+1,?_,⟨by simp;omega,stamped_push F.stamped h2,?_⟩,by simp [kvs]⟩
  ·simp [Instr.mapUpdate,run_underlying ht,MapKept.run_getObj_map hb,K.check w false hkey,h1,MapKept.run_setObj_map _ hb,Result.andThen,setBlock]
  ·intro x hx
   simp only [Array.toList_push,List.mem_append,List.mem_singleton]at hx
   rcases hx with hx|rfl
   ·exact F.reads x hx
   ·exact⟨_,rd_mk (R:=R0) hkey rfl⟩
 ·have hj:es[j]? =some e0:=by simpa using h2
  have hkeyf:∀e',es[j]? =some e'→({e' with key:=key,val:=val}:MapEntry).key=e'.key:=fun e' he'=>by rw [hj]at he';cases he';exact h3.symm
  have hlist:(es.modify j (fun e'=> {e' with key:=key,val:=val})).toList=es.toList.set j {e0 with key:=key,val:=val}:=by rw [Array.toList_modify,modify_eq_set _ _ _ _ h2]
  refine .inr ⟨j,e0,es.modify j (fun e'=> {e' with key:=key,val:=val}),clock,h2,h3,?_,⟨by simpa using F.size,stamped_modify F.stamped _ _ (fun _ _=>rfl) (fun e' _ he'=>hkeyf e' he'),?_⟩,?_⟩
  ·simp [Instr.mapUpdate,run_underlying ht,MapKept.run_getObj_map hb,K.check w false hkey,h1,hj,h3,K.stays w hkey,MapKept.run_setObj_map _ hb,Result.andThen,setBlock]
  ·intro x hx
   rw [hlist]at hx
   rcases List.mem_or_eq_of_mem_set hx with h|h
   ·exact F.reads x h
   ·subst h;exact⟨_,rd_mk (R:=R0) hkey rfl⟩
  ·rw [kvs,hlist,List.map_set]
theorem MI.upd_new (h:MI P k w b l) (K:Keyed P k) (ht:P.underlying t=some (.map k e)) {key val:Value} {kl:Lit} (hkey:keyOf P k key=some kl) (hn:∀p∈l,p.1≠key) (hroom:l.length<maxLen):
  ∃w',(Instr.mapUpdate t (.map (some b)) key val).run P w= .ok () w'∧MI P k w' b (l++ [(key,val)])∧Kp w w' (some b)∧w'.heap.size=w.heap.size:=by
 obtain ⟨es,clock,hb,F,rfl⟩:=h
 rcases map_upd (val:=val) K ht hkey hb F (by simpa using hroom)with⟨_,es',clock',hrun,F',hl⟩|⟨j,e0,es',clock',hj,hk,_⟩
 ·exact⟨_,hrun,⟨es',clock',heap_setBlock_same hb _,F',hl⟩,⟨⟨rfl,rfl,rfl,by simp [setBlock],fun i _ hi=>heap_setBlock_other hb _ (fun e=>hi (by rw [e]))⟩,Nat.le_refl _⟩,by simp [setBlock]⟩
 ·exact absurd hk (hn _ (List.mem_map.2 ⟨e0,List.mem_of_getElem? hj,rfl⟩))
theorem MI.upd_old (h:MI P k w b l) (K:Keyed P k) (ht:P.underlying t=some (.map k e)) {key val u:Value} {kl:Lit} (hkey:keyOf P k key=some kl) {j:Nat} (hj:l[j]? =some (key,u)) (hroom:l.length<maxLen):
  ∃w',(Instr.mapUpdate t (.map (some b)) key val).run P w= .ok () w'∧MI P k w' b (l.set j (key,val))∧Kp w w' (some b)∧w'.heap.size=w.heap.size:=by
 obtain ⟨es,clock,hb,F,rfl⟩:=h
 simp only [kvs,List.getElem?_map,Option.map_eq_some_iff,Prod.mk.injEq]at hj
 obtain ⟨x,hx,hxk,_⟩:=hj
 rcases map_upd (val:=val) K ht hkey hb F (by simpa using hroom)with⟨hn,_⟩|⟨i,e0,es',clock',hi,hk,hrun,F',hl⟩
 ·exact absurd hxk (hn _ (List.mem_of_getElem? hx))
 ·have hij:i=j:=Classical.byContradiction fun hne=>other_key F hi hx (fun e=>hne e.symm) (hxk.trans hk.symm)
  subst hij
  exact⟨_,hrun,⟨es',clock',heap_setBlock_same hb _,F',hl⟩,⟨⟨rfl,rfl,rfl,by simp [setBlock],fun i _ hi=>heap_setBlock_other hb _ (fun e=>hi (by rw [e]))⟩,Nat.le_refl _⟩,by simp [setBlock]⟩
theorem MI.len (h:MI P k w b l) (ht:P.underlying t=some (.map k e)) (ty:TypeId):(Builtin.len_ #[t] ty #[.map (some b)]).run P w= .ok (.int .i64 (l.length:Int)) w:=by
 obtain ⟨es,clock,hb,F,rfl⟩:=h
 simp [Builtin.len_,run_underlying ht,MapKept.run_getObj_map hb,goInt,Result.andThen]
def RI (P:Program) (k:TypeId) (w:World) (b r:Nat) (l left:List (Value×Value)):Prop:=
 ∃es clock since seen c0,w.heap[b]? =some (.map es clock)∧Fit P k R0 es clock∧kvs es=l∧w.heap[r]? =some (.mapIter (some b) since seen c0)∧(∀x∈es.toList,x.born<since)∧since≤c0∧since≤clock∧kvs (leftOf es seen)=left
theorem leftOf_list (es:Array MapEntry) (seen:Array Nat):(leftOf es seen).toList=es.toList.filter fun e=> !seen.contains e.born:=by
 unfold leftOf;rw [Array.toList_filter]
theorem left_push {es:Array MapEntry} {seen:Array Nat} {x:MapEntry} (hn:(es.toList.map (·.born)).Nodup) (hx:x∈(leftOf es seen).toList):∃A C,(leftOf es seen).toList=A++x :: C∧(leftOf es (seen.push x.born)).toList=A++C:=by
 obtain ⟨A,C,hL⟩:=List.append_of_mem hx
 refine⟨A,C,hL,?_⟩
 have e1:(leftOf es (seen.push x.born)).toList=((leftOf es seen).toList).filter fun y=> !(y.born == x.born):=by
  rw [leftOf_list,leftOf_list,List.filter_filter]
  refine List.filter_congr fun y _=>?_
  rw [contains_push]
  cases seen.contains y.born<;>cases (y.born == x.born)<;>rfl
 have hn2:(((leftOf es seen).toList).map (·.born)).Nodup:=by
  rw [leftOf_list]
  exact hn.sublist ((List.filter_sublist).map _)
 rw [hL,List.map_append,List.map_cons,List.nodup_append]at hn2
 obtain ⟨_,h2,h3⟩:=hn2
 rw [List.nodup_cons]at h2
 rw [e1,hL,List.filter_append,List.filter_cons]
 have eA:A.filter (fun y=> !(y.born == x.born))=A:=List.filter_eq_self.2 fun y hy=>by
  have:=h3 y.born (List.mem_map.2 ⟨y,hy,rfl⟩) x.born (by simp)
  simpa using this
 have eC:C.filter (fun y=> !(y.born == x.born))=C:=List.filter_eq_self.2 fun y hy=>by
  have:y.born≠x.born:=fun e=>h2.1 (e ▸ List.mem_map.2 ⟨y,hy,rfl⟩)
  simpa using this
 rw [eA,eC]
 simp
theorem RI.owns {r:Nat} {left:List (Value×Value)} (h:RI P k w b r l left):MI P k w b l:=by
 obtain ⟨es,clock,since,seen,c0,hb,F,hl,_⟩:=h
 exact⟨es,clock,hb,F,hl⟩
theorem RI.lt {r:Nat} {left:List (Value×Value)} (h:RI P k w b r l left):r<w.heap.size:=by
 obtain ⟨es,clock,since,seen,c0,hb,F,hl,hr,_⟩:=h
 exact(Array.getElem?_eq_some_iff.1 hr).1
theorem RI.ne {r:Nat} {left:List (Value×Value)} (h:RI P k w b r l left):r≠b:=by
 obtain ⟨es,clock,since,seen,c0,hb,F,hl,hr,_⟩:=h
 intro e
 rw [e,hb]at hr
 cases hr
theorem RI.kp {r:Nat} {left:List (Value×Value)} {row:Option Nat} (h:RI P k w b r l left) (hk:Kp w w' row) (hb':some b≠row) (hr':some r≠row):RI P k w' b r l left:=by
 have h1:=h.owns.lt
 have h2:=h.lt
 obtain ⟨es,clock,since,seen,c0,hb,F,hl,hr,h3⟩:=h
 exact⟨es,clock,since,seen,c0,(hk.g.block b h1 hb').trans hb,F,hl,(hk.g.block r h2 hr').trans hr,h3⟩
theorem MI.range (h:MI P k w b l) (ht:P.underlying t=some (.map k e)):
  ∃w',(Instr.range t (.map (some b))).run P w= .ok (.pointer (some ⟨w.heap.size,0,none⟩)) w'∧RI P k w' b w.heap.size l l∧Kp w w' none∧w'.heap.size=w.heap.size+1:=by
 have hlt:=h.lt
 obtain ⟨es,clock,hb,F,rfl⟩:=h
 refine⟨_,run_range_map w t k e b es clock ht hb,⟨es,clock,clock,#[],clock,((MapKept.heap_alloc w _).2 b hlt).trans hb,F,rfl,(MapKept.heap_alloc w _).1,F.stamped.1,Nat.le_refl _,Nat.le_refl _,?_⟩,Kp.alloc w _,by simp⟩
 rw [kvs,leftOf_list,List.filter_eq_self.2 (by simp)]
theorem RI.next {r:Nat} {left:List (Value×Value)} (h:RI P k w b r l left) (ty:TypeId):
  (left= []∧(Instr.next (.pointer (some ⟨r,0,none⟩)) false ty).run P w= .ok (.tuple #[.bool false]) w)∨
  ∃key v A C w',left=A++(key,v) :: C∧(Instr.next (.pointer (some ⟨r,0,none⟩)) false ty).run P w= .ok (.tuple #[.bool true,key,v]) w'∧RI P k w' b r l (A++C)∧Kp w w' (some r)∧w'.heap.size=w.heap.size∧(Instr.entry (.pointer (some ⟨r,0,none⟩))).run P w'= .ok (.tuple #[key,v]) w':=by
 have hne:=h.ne
 obtain ⟨es,clock,since,seen,c0,hb,F,rfl,hr,hold,hsc,hsk,rfl⟩:=h
 rcases run_next_at (P:=P) w ty r b since c0 seen es clock hr hb hold hsc with⟨h0,hrun⟩|⟨x,hx,w1,hal,hrun⟩
 ·refine .inl ⟨?_,hrun⟩
  have:leftOf es seen= #[]:=Array.eq_empty_of_size_eq_zero h0
  rw [this];rfl
 ·obtain ⟨hem,hes⟩:=mem_left hx
  have hnd:=((stamped_iff es clock).1 F.stamped).2.1
  obtain ⟨A,C,hL,hL2⟩:=left_push hnd hx
  have hr1:w1.heap[r]? =some (.mapIter (some b) since seen c0):=by rcases hal with rfl|rfl<;>exact hr
  have hb1:w1.heap[b]? =some (.map es clock):=by rcases hal with rfl|rfl<;>exact hb
  have hset:=heap_set (o':= .mapIter (some b) since (seen.push x.born) clock) hr1
  have hb':(setBlock w1 r (.mapIter (some b) since (seen.push x.born) clock)).heap[b]? =some (.map es clock):=(hset.2 b (fun e1=>hne e1.symm)).trans hb1
  refine .inr ⟨x.key,x.val,A.map fun e=>(e.key,e.val),C.map fun e=>(e.key,e.val),_,by rw [kvs,hL];simp,hrun,⟨es,clock,since,seen.push x.born,clock,hb',F,rfl,hset.1,hold,hsk,hsk,by rw [kvs,hL2,List.map_append]⟩,⟨?_,?_⟩,?_,run_entry_at _ r b since seen es clock x hset.1 hb' hem hnd⟩
  ·rcases hal with rfl|rfl<;>exact⟨rfl,rfl,rfl,by simp [setBlock],fun i _ hi=>hset.2 i (fun e1=>hi (by rw [e1]))⟩
  ·rcases hal with rfl|rfl
   ·exact Nat.le_refl _
   ·exact Nat.le_succ _
  ·rcases hal with rfl|rfl<;>simp [setBlock]
theorem MI.entry_new (h:MI P k w b l) (K:Keyed P k) (ht:P.underlying t=some (.map k e)) {z:Value} (hz:∀u:World,(zeroValue e).run P u= .ok z u) {key:Value} {kl:Lit} (hkey:keyOf P k key=some kl) (hn:∀p∈l,p.1≠key) (hroom:l.length<maxLen):
  ∃(st:Nat) (w1:World),(Instr.mapEntry t (.map (some b)) key).run P w= .ok (.tuple #[z,.int .i64 (st:Int)]) w1∧MI P k w1 b (l++ [(key,z)])∧Kp w w1 (some b)∧w1.heap.size=w.heap.size∧
   ∀(w2:World) (val:Value),w2.heap[b]? =w1.heap[b]? →∃w3,(Instr.entryStore t (.map (some b)) (.int .i64 (st:Int)) val).run P w2= .ok () w3∧MI P k w3 b (l++ [(key,val)])∧Kp w2 w3 (some b)∧w3.heap.size=w2.heap.size:=by
 obtain ⟨es,clock,hb,F,rfl⟩:=h
 obtain ⟨s1,s2,_⟩:=(stamped_iff es clock).1 F.stamped
 have FIT:∀val,(∀x∈es.toList,x.key≠key)→Fit P k R0 (es.push ⟨key,val,clock⟩) (clock+1):=fun val h2=>⟨by simp [kvs]at hroom ⊢;omega,stamped_push F.stamped h2,fun x hx=>by
  simp only [Array.toList_push,List.mem_append,List.mem_singleton]at hx
  rcases hx with hx|rfl
  ·exact F.reads x hx
  ·exact⟨_,rd_mk (R:=R0) hkey rfl⟩⟩
 rcases K.find w hkey es.toList F.keys with⟨h1,h2⟩|⟨j,e0,h1,h2,h3⟩
 ·refine⟨clock,setBlock w b (.map (es.push ⟨key,z,clock⟩) (clock+1)),?_,⟨_,_,heap_setBlock_same hb _,FIT z h2,by simp [kvs]⟩,⟨⟨rfl,rfl,rfl,by simp [setBlock],fun i _ hi=>heap_setBlock_other hb _ (fun e=>hi (by rw [e]))⟩,Nat.le_refl _⟩,by simp [setBlock],fun w2 val hw2=>?_⟩
  ·simp [Instr.mapEntry,run_underlying ht,MapKept.run_getObj_map hb,K.check w false hkey,h1,hz,MapKept.run_setObj_map _ hb,Result.andThen,setBlock,goInt]
  ·rw [heap_setBlock_same hb _]at hw2
   have hidx:(es.push ⟨key,z,clock⟩).findIdx? (fun e=>((e.born:Nat):Int) == ((clock:Nat):Int))=some es.size:=by
    rw [Go.WideElems.findIdx_arr]
    exact Go.WideElems.findIdx_born (l:=(es.push ⟨key,z,clock⟩).toList) (j:=es.size) (e0:=⟨key,z,clock⟩) (by
     simp only [Array.toList_push,List.map_append,List.map_cons,List.map_nil]
     refine List.nodup_append.2 ⟨s2,by simp,fun a ha c hc e1=>?_⟩
     simp only [List.mem_singleton]at hc
     obtain ⟨x,hx,rfl⟩:=List.mem_map.1 ha
     have:=s1 x hx
     omega) (by simp)
   have hmod:(es.push ⟨key,z,clock⟩).modify es.size (fun e=> {e with val:=val})=es.push ⟨key,val,clock⟩:=by
    apply Array.ext'
    rw [Array.toList_modify,Array.toList_push,Array.toList_push,←Array.length_toList,Go.WideElems.modify_last]
   refine⟨setBlock w2 b (.map (es.push ⟨key,val,clock⟩) (clock+1)),?_,⟨_,_,heap_setBlock_same hw2 _,FIT val h2,by simp [kvs]⟩,⟨⟨rfl,rfl,rfl,by simp [setBlock],fun i _ hi=>heap_setBlock_other hw2 _ (fun e=>hi (by rw [e]))⟩,Nat.le_refl _⟩,by simp [setBlock]⟩
   simp [Instr.entryStore,MapKept.run_getObj_map hw2,asInt,asIntOf,hidx,hmod,MapKept.run_setObj_map _ hw2,Result.andThen,setBlock]
 ·exact absurd h3 (hn _ (List.mem_map.2 ⟨e0,List.mem_of_getElem? h2,rfl⟩))
theorem MI.entry_old (h:MI P k w b l) (K:Keyed P k) (ht:P.underlying t=some (.map k e)) {key u:Value} {kl:Lit} (hkey:keyOf P k key=some kl) {j:Nat} (hj:l[j]? =some (key,u)):
  ∃(st:Nat) (w1:World),(Instr.mapEntry t (.map (some b)) key).run P w= .ok (.tuple #[u,.int .i64 (st:Int)]) w1∧MI P k w1 b l∧Kp w w1 (some b)∧w1.heap.size=w.heap.size∧
   ∀(w2:World) (val:Value),w2.heap[b]? =w1.heap[b]? →∃w3,(Instr.entryStore t (.map (some b)) (.int .i64 (st:Int)) val).run P w2= .ok () w3∧MI P k w3 b (l.set j (key,val))∧Kp w2 w3 (some b)∧w3.heap.size=w2.heap.size:=by
 obtain ⟨es,clock,hb,F,rfl⟩:=h
 obtain ⟨s1,s2,s3⟩:=(stamped_iff es clock).1 F.stamped
 simp only [kvs,List.getElem?_map,Option.map_eq_some_iff,Prod.mk.injEq]at hj
 obtain ⟨x,hx,hxk,rfl⟩:=hj
 rcases K.find w hkey es.toList F.keys with⟨h1,h2⟩|⟨i,e0,h1,h2,h3⟩
 ·exact absurd hxk (h2 x (List.mem_of_getElem? hx))
 ·have hij:i=j:=Classical.byContradiction fun hne=>other_key F h2 hx (fun e=>hne e.symm) (hxk.trans h3.symm)
  subst hij
  have hxe:x=e0:=by rw [hx]at h2;exact Option.some.inj h2
  subst hxe
  have hj:es[i]? =some x:=by simpa using h2
  have hsame:es.modify i (fun e=> {e with key:=key})=es:=by
   apply Array.ext'
   rw [Array.toList_modify,modify_eq_set _ _ _ _ h2]
   have:({x with key:=key}:MapEntry)=x:=by rw [←h3]
   rw [this]
   exact Go.WideElems.set_self _ _ _ h2
  have e0:setBlock w b (.map es clock)=w:=by
   unfold setBlock
   have:w.heap.setIfInBounds b (.map es clock)=w.heap:=by
    apply Array.ext_getElem?
    intro i
    by_cases hi:i=b
    ·subst hi;exact(heap_setBlock_same hb _).trans hb.symm
    ·exact heap_setBlock_other hb _ hi
   rw [this]
  refine⟨x.born,w,?_,⟨es,clock,hb,F,rfl⟩,⟨⟨rfl,rfl,rfl,Nat.le_refl _,fun _ _ _=>rfl⟩,Nat.le_refl _⟩,rfl,fun w2 val hw2=>?_⟩
  ·have hr:(Instr.mapEntry t (.map (some b)) key).run P w= .ok (.tuple #[x.val,.int .i64 (x.born:Int)]) (setBlock w b (.map es clock)):=by
    simp [Instr.mapEntry,run_underlying ht,MapKept.run_getObj_map hb,K.check w false hkey,h1,hj,h3,K.stays w hkey,hsame,MapKept.run_setObj_map _ hb,Result.andThen,setBlock,goInt]
   rw [hr,e0]
  ·rw [hb]at hw2
   have hidx:es.findIdx? (fun e=>((e.born:Nat):Int) == ((x.born:Nat):Int))=some i:=by
    rw [Go.WideElems.findIdx_arr]
    exact Go.WideElems.findIdx_born s2 h2
   have hlist:(es.modify i (fun e'=> {e' with val:=val})).toList=es.toList.set i {x with val:=val}:=by rw [Array.toList_modify,modify_eq_set _ _ _ _ h2]
   refine⟨setBlock w2 b (.map (es.modify i (fun e'=> {e' with val:=val})) clock),?_,⟨_,_,heap_setBlock_same hw2 _,⟨by simpa using F.size,stamped_modify F.stamped _ _ (fun _ _=>rfl) (fun e' _ he'=>rfl),fun y hy=>?_⟩,by rw [kvs,hlist,List.map_set,←h3]⟩,⟨⟨rfl,rfl,rfl,by simp [setBlock],fun i _ hi=>heap_setBlock_other hw2 _ (fun e=>hi (by rw [e]))⟩,Nat.le_refl _⟩,by simp [setBlock]⟩
   ·simp [Instr.entryStore,MapKept.run_getObj_map hw2,asInt,asIntOf,hidx,MapKept.run_setObj_map _ hw2,Result.andThen,setBlock]
   ·rw [hlist]at hy
    rcases List.mem_or_eq_of_mem_set hy with h|h
    ·exact F.reads y h
    ·subst h;exact⟨_,rd_mk (R:=R0) (by rw [h3];exact hkey) rfl⟩
end
section
variable {P:Program} (w:World) {ops:Array Oper} {rest:List Oper} {o:Oper} {a:Act} {Q:Exit→Act→World→Prop} {k t e:TypeId} {b:Nat} {l:List (Value×Value)}
theorem wpM_look (r:Value) (c:Bool) (hg:o.guard=none) (m x:Operand) (hop:o.op=Op.lookup t m x c) (hm:a.eval m= .map (some b)) (hx:(Instr.lookup t (.map (some b)) (a.eval x) c).run P w= .ok r w) (h:wpList P ops Q rest (a.put o.dst r) w):wpList P ops Q (o :: rest) a w:=by
 refine wpList_plain hg fun K' hK'=>?_
 unfold Oper.wp
 simp [execOp,hop,hm,hx,Result.andThen]
 exact hK' _ _ h
theorem wpM_upd (hg:o.guard=none) (m x v:Operand) (hop:o.op=Op.mapUpdate t m x v) (hm:a.eval m= .map (some b)) {Z:World→Prop} (hx:∃w',(Instr.mapUpdate t (.map (some b)) (a.eval x) (a.eval v)).run P w= .ok () w'∧Z w') (h:∀w',Z w'→wpList P ops Q rest (a.put o.dst undef) w'):wpList P ops Q (o :: rest) a w:=by
 refine wpList_plain hg fun K' hK'=>?_
 obtain ⟨w',hrun,hZ⟩:=hx
 unfold Oper.wp
 simp [execOp,hop,hm,hrun,Result.andThen]
 exact hK' _ _ (h w' hZ)
theorem wpM_len (hMI:MI P k w b l) (ht:P.underlying t=some (.map k e)) (hg:o.guard=none) (m:Operand) (hop:o.op=Op.call {callee:=Callee.builtin Builtin.len,args:= #[m],argTypes:= #[t]}) (hm:a.eval m= .map (some b)) (h:wpList P ops Q rest (a.put o.dst (.int .i64 (l.length:Int))) w):wpList P ops Q (o :: rest) a w:=by
 refine wpList_plain hg fun K' hK'=>?_
 unfold Oper.wp
 simp [execOp,hop,resolve,invoke,builtin,hm,hMI.len ht o.type,Result.andThen]
 exact hK' _ _ h
theorem wpM_range (hMI:MI P k w b l) (ht:P.underlying t=some (.map k e)) (hg:o.guard=none) (m:Operand) (hop:o.op=Op.range t m) (hm:a.eval m= .map (some b)) (h:∀w',RI P k w' b w.heap.size l l→Kp w w' none→w'.heap.size=w.heap.size+1→wpList P ops Q rest (a.put o.dst (.pointer (some ⟨w.heap.size,0,none⟩))) w'):wpList P ops Q (o :: rest) a w:=by
 refine wpList_plain hg fun K' hK'=>?_
 obtain ⟨w',hrun,h1,h2,h3⟩:=hMI.range ht
 unfold Oper.wp
 simp [execOp,hop,hm,hrun,Result.andThen]
 exact hK' _ _ (h w' h1 h2 h3)
theorem wpM_next {r:Nat} {left:List (Value×Value)} (hRI:RI P k w b r l left) (hg:o.guard=none) (it:Operand) (hop:o.op=Op.next it false) (hm:a.eval it= .pointer (some ⟨r,0,none⟩)) (h0:left= []→wpList P ops Q rest (a.put o.dst (.tuple #[.bool false])) w)
  (h:∀key v A C w',left=A++(key,v) :: C→RI P k w' b r l (A++C)→Kp w w' (some r)→w'.heap.size=w.heap.size→(Instr.entry (.pointer (some ⟨r,0,none⟩))).run P w'= .ok (.tuple #[key,v]) w'→wpList P ops Q rest (a.put o.dst (.tuple #[.bool true,key,v])) w'):wpList P ops Q (o :: rest) a w:=by
 refine wpList_plain hg fun K' hK'=>?_
 unfold Oper.wp
 rcases hRI.next o.type with⟨hl,hrun⟩|⟨key,v,A,C,w',hl,hrun,h1,h2,h3,h4⟩
 ·simp [execOp,hop,hm,hrun,Result.andThen]
  exact hK' _ _ (h0 hl)
 ·simp [execOp,hop,hm,hrun,Result.andThen]
  exact hK' _ _ (h key v A C w' hl h1 h2 h3 h4)
end
end Go.Proofs.YtfgmdhjmgdccdaaGreat
namespace Go.Proofs.YtfgmdhjmgdccdaaGreat
open Go.RowKit Gus Go.Maps
noncomputable def kE:TypeId:=((Tryz.prog.underlying 142).bind fun| .map k _=>some k|_=>none).getD 0
theorem under_E:Tryz.prog.underlying 142=some (.map kE 44):=by kernel_rfl
theorem keyed_E:Keyed Tryz.prog kE:=Keyed.of_law (deep_law_laid (m:=9) (by kernel_rfl) (by omega) (of_decide_eq_true (by kernel_rfl)) (by kernel_rfl) (by kernel_rfl))
theorem under_I:Tryz.prog.underlying 3=some (.int .i64):=by kernel_rfl
theorem keyLits_int (d:Nat) (i:Int) (h:(Lit.int .i64 i).wf=true):Tryz.prog.keyLits (d+1) 3 [.int .i64 i]=some [.int .i64 i]:=by
 simp only [Program.keyLits,under_I,h,and_self,if_true]
theorem wf_nat {i:Nat} (h:i<9223372036854775808):(Lit.int .i64 (i:Int)).wf=true:=by
 simp only [Lit.wf,Bool.and_eq_true,decide_eq_true_eq]
 constructor<;>simp [IntKind.min,IntKind.max,IntKind.signed,IntKind.bits]<;>omega
theorem keyOf_funE:(fun i j:Int=>keyOf Tryz.prog kE (.agg #[.int .i64 i,.int .i64 j]))=fun i j=>Option.map (fun ls=>Lit.string (keyBytes ls)) (Option.map List.flatten ([[Value.int .i64 i],[Value.int .i64 j]].mapM fun v=>Tryz.prog.keyLits 5 3 v)):=by kernel_rfl
theorem keyOf_E {i j:Nat} (hi:i<9223372036854775808) (hj:j<9223372036854775808):keyOf Tryz.prog kE (.agg #[.int .i64 (i:Int),.int .i64 (j:Int)])=some (klT i j):=by
 have h:=congrFun (congrFun keyOf_funE i) j
 simp only [List.mapM_cons,List.mapM_nil,keyLits_int 4 _ (wf_nat hi),keyLits_int 4 _ (wf_nat hj)]at h
 exact h
theorem zeroEdge (w:World):(zeroValue 44).run Tryz.prog w= .ok (eV ⟨0,0,0,0⟩) w:=by
 have h:(Tryz.prog.info? 44).bind (·.zero)=some (eV ⟨0,0,0,0⟩):=by kernel_rfl
 obtain ⟨i,h1,h2⟩:=Option.bind_eq_some_iff.1 h
 simp [zeroValue,Go.typeInfo,h1,h2]
abbrev endK (a b:Int):Value:= .agg #[.int .i64 a,.int .i64 b]
abbrev eE (e:Edg):Value×Value:=(endK e.a e.b,eV e)
theorem RC.new1' {α:Type} {enc:α→List Value} {k g:Nat} {t:TypeId} {w:World} {x:α} {cs:List Value} (hg:g=w.heap.size) (h:enc x=cs):RC enc k (w.alloc (.cells cs.toArray t)) g [x]:=by subst hg;exact RC.new1 h
theorem VB.kp {w w':World} {g:Nat} {cs:List Value} {row:Option Nat} (h:VB w g cs) (hk:Kp w w' row) (hne:some g≠row):VB w' g cs:=
 ⟨fun j v hv=>(hk.cell h.lt hne).trans (h.c j v hv),fun j hj=>(World.frozen?_of_block (a:=⟨g,j,none⟩) (hk.g.block g h.lt hne)).trans (h.f j hj),Nat.lt_of_lt_of_le h.lt hk.g.size⟩
theorem info_bEdge:(Tryz.prog.info? 44).map (fun i=>(i.zero,i.size,i.bytes))=some (some (eV ⟨0,0,0,0⟩),4,32):=by kernel_rfl
theorem SL.made {α:Type} {enc:α→List Value} {k:Nat} {t:TypeId} {cs:Array Value} (w:World) (cap:Nat) (hcs:cs.size=cap*k) (hc:cap≤maxLen):SL enc k t (w.alloc (.cells cs t)) w.heap.size (.slice (some ⟨w.heap.size,0,none⟩) 0 cap) []:=
 .inr ⟨w.heap.size,cap,rfl,Nat.le_refl _,Nat.zero_le _,hc,⟨cs,(MapKept.heap_alloc w _).1,hcs⟩,fun j hj=>absurd hj (by simp)⟩
theorem left_split {l:List Edg} {f:Edg→Value×Value} {key v:Value} {A C:List (Value×Value)} (h:l.map f=A++(key,v) :: C):∃a e c,l=a++e :: c∧A=a.map f∧C=c.map f∧f e=(key,v):=by
 obtain ⟨a,c',rfl,h1,h2⟩:=List.map_eq_append_iff.1 h
 obtain ⟨e,c,rfl,h3,h4⟩:=List.map_eq_cons_iff.1 h2
 exact⟨a,e,c,rfl,h1.symm,h4.symm,h3⟩
def slLen:Value→Nat
 | .slice _ n _=>n
 | _=>0
theorem RI.gr {P:Program} {k:TypeId} {w w':World} {b r B:Nat} {l left:List (Value×Value)} (h:RI P k w b r l left) (hg:Gr B w w') (hb:b<B) (hr:r<B):RI P k w' b r l left:=by
 obtain ⟨es,clock,since,seen,c0,h1,F,hl,h2,h3⟩:=h
 exact⟨es,clock,since,seen,c0,(hg.block b hb).trans h1,F,hl,(hg.block r hr).trans h2,h3⟩
theorem wpE_next {P:Program} {k:TypeId} {b r:Nat} {l:List (Value×Value)} (w:World) {ops:Array Oper} {rest:List Oper} {o:Oper} {a:Act} {Q:Exit→Act→World→Prop} {left:List Edg} (hRI:RI P k w b r l (left.map eE)) (hg:o.guard=none) (it:Operand) (hop:o.op=Op.next it false) (hm:a.eval it= .pointer (some ⟨r,0,none⟩))
  (h0:Hid (left= [])→Hid (wpList P ops Q rest (a.put o.dst (.tuple #[.bool false])) w))
  (h:∀(e:Edg) (A C:List Edg) (w':World),Hid (left=A++e :: C)→Hid (RI P k w' b r l ((A++C).map eE))→Hid (Kp w w' (some r))→w.heap.size≤w'.heap.size→(Instr.entry (.pointer (some ⟨r,0,none⟩))).run P w'= .ok (.tuple #[.agg #[.int .i64 e.a,.int .i64 e.b],.agg #[.int .i64 e.a,.int .i64 e.b,.int .i64 e.l,.int .i64 e.r]]) w'→Hid (wpList P ops Q rest (a.put o.dst (.tuple #[.bool true,.agg #[.int .i64 e.a,.int .i64 e.b],.agg #[.int .i64 e.a,.int .i64 e.b,.int .i64 e.l,.int .i64 e.r]])) w')):wpList P ops Q (o :: rest) a w:=by
 refine wpM_next w hRI hg it hop hm (fun hl=>(h0 (Lh (by simpa using hl))).out) fun key v A C w' hl hri hkp hsz hent=>?_
 obtain ⟨a',e,c,rfl,rfl,rfl,he⟩:=left_split hl
 simp only [eE,Prod.mk.injEq]at he
 obtain ⟨rfl,rfl⟩:=he
 exact Hid.out <| h e a' c w' (Lh rfl) (Lh (by rw [List.map_append];exact hri)) (Lh hkp) (Nat.le_of_eq hsz.symm) hent
abbrev MIE (w:World) (b:Nat) (l:List Edg):Prop:=MI Tryz.prog kE w b (l.map eE)
end Go.Proofs.YtfgmdhjmgdccdaaGreat
namespace Go.Proofs.YtfgmdhjmgdccdaaGreat
open Go.RowKit Gus Go.Maps
abbrev DE:=Nat×Nat×Nat
def dirT (n:Tri) (t:Nat):List DE:= [(n.1,n.2.1,t),(n.2.1,n.2.2,t),(n.2.2,n.1,t)]
def keyE (a b:Nat) (e:Edg):Bool:=e.a == ((min a b:Nat):Int) && e.b == ((max a b:Nat):Int)
def updE (a b t:Nat) (e:Edg):Edg:=if a<b then(if e.l= -1 then⟨e.a,e.b,t,e.r⟩else e)else if e.r= -1 then⟨e.a,e.b,e.l,t⟩else e
def newE (a b:Nat):Edg:=⟨(min a b:Nat),(max a b:Nat),-1,-1⟩
def estep (E:List Edg) (d:DE):List Edg:=match E.findIdx? (keyE d.1 d.2.1) with
 | some j=>match E[j]? with
  | some e=>E.set j (updE d.1 d.2.1 d.2.2 e)
  | none=>E
 | none=>E++ [updE d.1 d.2.1 d.2.2 (newE d.1 d.2.1)]
def stE (l:List Tri):Nat→List Edg
 | 0=> []
 | n+1=>match l[n]? with
  | some t=>(dirT t n).foldl estep (stE l n)
  | none=>stE l n
theorem stE_succ {l:List Tri} {n:Nat} {t:Tri} (h:l[n]? =some t):stE l (n+1)=(dirT t n).foldl estep (stE l n):=by simp [stE,h]
theorem estep_none {E:List Edg} {a b t:Nat} (h:E.findIdx? (keyE a b)=none):estep E (a,b,t)=E++ [updE a b t (newE a b)]:=by simp [estep,h]
theorem estep_some {E:List Edg} {a b t j:Nat} {e:Edg} (h:E.findIdx? (keyE a b)=some j) (he:E[j]? =some e):estep E (a,b,t)=E.set j (updE a b t e):=by simp [estep,h,he]
theorem estep_len (E:List Edg) (d:DE):(estep E d).length≤E.length+1:=by
 unfold estep
 split
 ·split<;>simp
 ·simp
theorem fold_len (D:List DE) (E:List Edg):(D.foldl estep E).length≤E.length+D.length:=by
 induction D generalizing E with
 | nil=>simp
 | cons d D ih=>
  have h1:=ih (estep E d);have h2:=estep_len E d
  simp only [List.foldl_cons,List.length_cons]
  omega
theorem estep_ge (E:List Edg) (d:DE):E.length≤(estep E d).length:=by
 unfold estep
 split
 ·split<;>simp
 ·simp
theorem fold_ge (D:List DE) (E:List Edg):E.length≤(D.foldl estep E).length:=by
 induction D generalizing E with
 | nil=>simp
 | cons d D ih=>exact Nat.le_trans (estep_ge E d) (ih (estep E d))
theorem stE_ge (l:List Tri) (n:Nat):(stE l n).length≤(stE l (n+1)).length:=by
 simp only [stE]
 split
 ·exact fold_ge _ _
 ·exact Nat.le_refl _
theorem stE_pos {l:List Tri} (h:l≠ []):0<(stE l l.length).length:=by
 have h1:∀n,(stE l 1).length≤(stE l (n+1)).length:=by
  intro n
  induction n with
  | zero=>exact Nat.le_refl _
  | succ n ih=>exact Nat.le_trans ih (stE_ge l (n+1))
 obtain ⟨t,l',rfl⟩:=List.exists_cons_of_ne_nil h
 have h2:0<(stE (t :: l') 1).length:=by
  simp only [stE,List.getElem?_cons_zero,dirT,List.foldl_cons,List.foldl_nil]
  refine Nat.lt_of_lt_of_le ?_ (Nat.le_trans (estep_ge _ _) (estep_ge _ _))
  simp [estep]
 exact Nat.lt_of_lt_of_le h2 (h1 l'.length)
theorem stE_len (l:List Tri) (n:Nat):(stE l n).length≤3*n:=by
 induction n with
 | zero=>simp [stE]
 | succ n ih=>
  simp only [stE]
  split
  ·rename_i t _
   simp only [dirT,List.foldl_cons,List.foldl_nil]
   have h1:=estep_len (stE l n) (t.1,t.2.1,n)
   have h2:=estep_len (estep (stE l n) (t.1,t.2.1,n)) (t.2.1,t.2.2,n)
   have h3:=estep_len (estep (estep (stE l n) (t.1,t.2.1,n)) (t.2.1,t.2.2,n)) (t.2.2,t.1,n)
   omega
  ·omega
theorem key_found {E:List Edg} {a b j:Nat} (h:E.findIdx? (keyE a b)=some j):∃e,E[j]? =some e∧e.a=((min a b:Nat):Int)∧e.b=((max a b:Nat):Int):=by
 rw [List.findIdx?_eq_some_iff_getElem]at h
 obtain ⟨hj,hk,_⟩:=h
 refine⟨E[j],List.getElem?_eq_getElem hj,?_⟩
 simpa [keyE] using hk
theorem key_missed {E:List Edg} {a b:Nat} (h:E.findIdx? (keyE a b)=none):∀p∈E.map eE,p.1≠endK ((min a b:Nat):Int) ((max a b:Nat):Int):=by
 rw [List.findIdx?_eq_none_iff]at h
 intro p hp e1
 obtain ⟨e,he,rfl⟩:=List.mem_map.1 hp
 have:=h e he
 simp [keyE,endK]at this e1
 exact this e1.1 e1.2
def Keyd (E:List Edg):Prop:=(E.map fun e=>(e.a,e.b)).Nodup
theorem updE_key (a b t:Nat) (e:Edg):(updE a b t e).a=e.a∧(updE a b t e).b=e.b:=by
 unfold updE;repeat' split
 all_goals exact⟨rfl,rfl⟩
theorem estep_keys {E:List Edg} {d:DE}:((estep E d).map fun e=>(e.a,e.b))=if E.any (keyE d.1 d.2.1)then E.map fun e=>(e.a,e.b)else E.map (fun e=>(e.a,e.b))++ [(((min d.1 d.2.1:Nat):Int),((max d.1 d.2.1:Nat):Int))]:=by
 obtain ⟨a,b,t⟩:=d
 rcases hf:E.findIdx? (keyE a b)with _|j
 ·rw [estep_none hf,if_neg]
  ·rw [List.map_append];simp [updE_key,newE]
  ·rw [List.findIdx?_eq_none_iff]at hf
   simp only [List.any_eq_true,not_exists,not_and,Bool.not_eq_true]
   exact hf
 ·obtain ⟨e,he,h1,h2⟩:=key_found hf
  rw [estep_some hf he,if_pos]
  ·rw [List.map_set,(updE_key a b t e).1,(updE_key a b t e).2]
   apply List.ext_getElem?
   intro i
   rw [List.getElem?_set]
   split
   ·rename_i hi;subst hi
    have hj:=(List.getElem?_eq_some_iff.1 he).1
    simp [hj,(List.getElem?_eq_some_iff.1 he).2]
   ·rfl
  ·rw [List.any_eq_true]
   exact⟨e,List.mem_of_getElem? he,by simp [keyE,h1,h2]⟩
end Go.Proofs.YtfgmdhjmgdccdaaGreat
