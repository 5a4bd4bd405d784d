/-
  Part 34 of the proof: PartK SortI.
-/
import Derived.Test.YtmelogdhllhjiaaGreatJ20
import Derived.Test.YtmelogdhllhjiaaGreatJ26
import Derived.Test.YtmelogdhllhjiaaGreatShelfD
import Derived.Test.YtmelogdhllhjiaaGreatJ24
set_option linter.unusedSimpArgs false
set_option linter.unusedVariables false
namespace Go.Proofs.YtmelogdhllhjiaaGreat
open Go.RowKit Gus Go.Maps
abbrev natC (n:Nat):List Value:= [.int .i64 (n:Int)]
theorem natC_len (n:Nat):(natC n).length=1:=rfl
theorem natC_one (n:Nat):∀v∈natC n,v.oneCell'=true:=by simp [Value.oneCell']
theorem info_nat:(Tryz.prog.info? 3).map (fun i=>(i.zero,i.size,i.bytes))=some (some (.int .i64 0),1,8):=by kernel_rfl
noncomputable def kA:TypeId:=((Tryz.prog.underlying 231).bind fun| .map k _=>some k|_=>none).getD 0
theorem under_A:Tryz.prog.underlying 231=some (.map kA 84):=by kernel_rfl
theorem keyed_A:Keyed Tryz.prog kA:=int_keyed (show Tryz.prog.underlying kA=some (.int .i64)from by kernel_rfl)
theorem get_set {α:Type} {l:List α} {j i:Nat} {x a:α} (hj:j<l.length) (h:(l.set j x)[i]? =some a):(i≠j∧l[i]? =some a)∨(i=j∧a=x):=by
 by_cases e:i=j
 ·subst e
  rw [List.getElem?_set_self hj]at h
  exact .inr ⟨rfl,by cases h;rfl⟩
 ·rw [List.getElem?_set_ne (by omega)]at h
  exact .inl ⟨e,h⟩
theorem key_allA:((List.range 4).map fun (i:Nat)=>(keyOf Tryz.prog kA (.int .i64 (i:Int))).isSome)= [true,true,true,true]:=by kernel_rfl
theorem keyOf_A {i:Nat} (hi:i<4):∃kl,keyOf Tryz.prog kA (.int .i64 (i:Int))=some kl:=by
 have h:=congrArg (fun l=>l[i]?) key_allA
 rcases(show i=0∨i=1∨i=2∨i=3 by omega)with rfl|rfl|rfl|rfl
 all_goals
  simp at h
  exact Option.isSome_iff_exists.1 h
theorem zero_A (w:World):(zeroValue 84).run Tryz.prog w= .ok (.slice none 0 0) w:=by
 have h:(Tryz.prog.info? 84).bind (·.zero)=some (.slice none 0 0):=by kernel_rfl
 obtain ⟨i,h1,h2⟩:=Option.bind_eq_some_iff.1 h
 simp [zeroValue,Go.typeInfo,h1,h2]
abbrev eA (e:Nat×Value):Value×Value:=(.int .i64 (e.1:Int),e.2)
structure AtE (w:World) (lo:Nat) (f:Nat→List Nat) (n:Nat) (l:List (Nat×Value)):Prop where
 len:l.length≤n
 ent:∀(i:Nat) (a:Nat×Value),l[i]? =some a→a.1<4∧f a.1≠ []∧SL natC 1 3 w lo a.2 (f a.1)
 all:∀(p:Nat),f p≠ []→∃v,(p,v)∈l
 sep:∀(i j:Nat) (a b:Nat×Value),l[i]? =some a→l[j]? =some b→i≠j→a.1≠b.1∧a.2.ownBlock≠b.2.ownBlock
def AtS (w:World) (b lo:Nat) (f:Nat→List Nat) (n:Nat):Prop:= ∃l:List (Nat×Value),MI Tryz.prog kA w b (l.map eA)∧AtE w lo f n l
def AtO (w:World) (b lo:Nat) (f:Nat→List Nat) (n:Nat) (p:Nat) (v:Value):Prop:=
 ∃l:List (Nat×Value),MI Tryz.prog kA w b (l.map eA)∧AtE w lo f n l∧((v= .slice none 0 0∧f p= []∧∀(i:Nat) (a:Nat×Value),l[i]? =some a→a.1≠p)∨∃j:Nat,l[j]? =some (p,v))
theorem SL.own_some {α:Type} {enc:α→List Value} {k:Nat} {t:TypeId} {w:World} {B:Nat} {v:Value} {l:List α} (h:SL enc k t w B v l) (hl:l≠ []):∃g,v.ownBlock=some g∧B≤g∧g<w.heap.size:=by
 obtain ⟨g,cap,rfl,h1,_,_,h2,_⟩:=h.block hl
 exact⟨g,rfl,h1,h2.lt⟩
theorem AtE.gr {w w':World} {lo n:Nat} {f:Nat→List Nat} {l:List (Nat×Value)} (h:AtE w lo f n l) (hg:Gr w.heap.size w w'):AtE w' lo f n l:=
 ⟨h.len,fun i a ha=>⟨(h.ent i a ha).1,(h.ent i a ha).2.1,(h.ent i a ha).2.2.gr hg⟩,h.all,h.sep⟩
theorem AtO.gr {w w':World} {b lo n p:Nat} {f:Nat→List Nat} {v:Value} (h:AtO w b lo f n p v) (hg:Gr w.heap.size w w'):AtO w' b lo f n p v:=by
 obtain ⟨l,h1,h2,h3⟩:=h
 exact⟨l,h1.gr hg h1.lt,h2.gr hg,h3⟩
theorem AtO.sl {w:World} {b lo n p:Nat} {f:Nat→List Nat} {v:Value} (h:AtO w b lo f n p v):SL natC 1 3 w lo v (f p):=by
 obtain ⟨l,_,h2,⟨rfl,h3,_⟩|⟨j,hj⟩⟩:=h
 ·rw [h3];exact SL.nil
 ·exact(h2.ent j _ hj).2.2
theorem AtS.gr {w w':World} {b lo n:Nat} {f:Nat→List Nat} (h:AtS w b lo f n) (hg:Gr w.heap.size w w'):AtS w' b lo f n:=by
 obtain ⟨l,h1,h2⟩:=h
 exact⟨l,h1.gr hg h1.lt,h2.gr hg⟩
theorem AtS.new {w:World} {b lo:Nat} (h:MI Tryz.prog kA w b []):AtS w b lo (fun _=> []) 0:=
 ⟨[],h,Nat.le_refl _,fun i a ha=>by simp at ha,fun p hp=>absurd rfl hp,fun i j a b ha=>by simp at ha⟩
theorem AtS.look {w:World} {b lo n p:Nat} {f:Nat→List Nat} (h:AtS w b lo f n) (hp:p<4):∃v,(Instr.lookup 231 (.map (some b)) (.int .i64 (p:Int)) false).run Tryz.prog w= .ok v w∧AtO w b lo f n p v:=by
 obtain ⟨l,h1,h2⟩:=h
 obtain ⟨kl,hk⟩:=keyOf_A hp
 by_cases hf:f p= []
 ·have hn:∀(i:Nat) (a:Nat×Value),l[i]? =some a→a.1≠p:=fun i a ha e=>(h2.ent i a ha).2.1 (e ▸ hf)
  refine⟨.slice none 0 0,?_,l,h1,h2,.inl ⟨rfl,hf,hn⟩⟩
  have:=MI.look_none false h1 keyed_A under_A (zero_A w) (key:= .int .i64 (p:Int)) hk (fun x hx=>by
   obtain ⟨a,ha,rfl⟩:=List.mem_map.1 hx
   obtain ⟨i,hi⟩:=List.getElem?_of_mem ha
   have:=hn i a hi
   simp;omega)
  simpa using this
 ·obtain ⟨v,hv⟩:=h2.all p hf
  obtain ⟨j,hj⟩:=List.getElem?_of_mem hv
  refine⟨v,?_,l,h1,h2,.inr ⟨j,hj⟩⟩
  have:=MI.look_some false h1 keyed_A under_A (zero_A w) (key:= .int .i64 (p:Int)) (v:=v) hk (List.mem_map.2 ⟨_,hv,rfl⟩)
  simpa using this
def fset (f:Nat→List Nat) (p:Nat) (x:List Nat):Nat→List Nat:=fun q=>if q=p then x else f q
theorem AtO.upd {w w':World} {b lo n p t:Nat} {f:Nat→List Nat} {v v':Value} (h:AtO w b lo f n p v) (hp:p<4) (hb:b<lo) (hn:n<100) (hk:Kp w w' v.ownBlock) (hs:SL natC 1 3 w' lo v' (f p++ [t])) (ho:v'.ownBlock=v.ownBlock∨v'.ownBlock=some w.heap.size):
  ∃w'',(Instr.mapUpdate 231 (.map (some b)) (.int .i64 (p:Int)) v').run Tryz.prog w'= .ok () w''∧AtS w'' b lo (fset f p (f p++ [t])) (n+1)∧Kp w' w'' (some b)∧w''.heap.size=w'.heap.size:=by
 have hsl:=h.sl
 obtain ⟨l,h1,h2,h3⟩:=h
 obtain ⟨kl,hk2⟩:=keyOf_A hp
 have hrow:some b≠v.ownBlock:=fun e=>by
  rcases h3 with⟨rfl,_,_⟩|⟨j,hj⟩
  ·simp [Value.ownBlock]at e
  ·obtain ⟨g,e2,e3,_⟩:=(h2.ent j _ hj).2.2.own_some (h2.ent j _ hj).2.1
   rw [e2]at e;cases e;omega
 have hm:maxLen > 1000:=by simp [maxLen]
 have hroom:(l.map eA).length<maxLen:=by have:=h2.len;simp;omega
 have h1':=h1.kp hk hrow
 rcases h3 with⟨rfl,hf,hno⟩|⟨j,hj⟩
 ·have ho':v'.ownBlock=some w.heap.size:=by
   obtain ⟨g,e,_⟩:=hs.own_some (by simp)
   rcases ho with ho|ho
   ·rw [e]at ho;simp [Value.ownBlock]at ho
   ·exact ho
  obtain ⟨w'',hrun,hM,hK,hsz⟩:=MI.upd_new (val:=v') h1' keyed_A under_A (key:= .int .i64 (p:Int)) hk2 (fun x hx=>by
   obtain ⟨a,ha,rfl⟩:=List.mem_map.1 hx
   obtain ⟨i,hi⟩:=List.getElem?_of_mem ha
   have:=hno i a hi
   simp;omega) hroom
  refine⟨w'',hrun,⟨l++ [(p,v')],by simpa using hM,?_,?_,?_,?_⟩,hK,hsz⟩
  ·have:=h2.len;simp;omega
  ·intro i a ha
   rw [List.getElem?_append]at ha
   split at ha
   ·obtain ⟨e1,e2,e3⟩:=h2.ent i a ha
    have e4:=hno i a ha
    have ef:fset f p (f p++ [t]) a.1=f a.1:=if_neg e4
    rw [ef]
    refine⟨e1,e2,hK.sl (hk.sl e3 fun g _=>by simp [Value.ownBlock]) fun g hg=>?_⟩
    obtain ⟨g',e5,e6,_⟩:=e3.own_some e2
    rw [e5]at hg;cases hg;intro e;cases e;omega
   ·obtain ⟨rfl⟩:(p,v')=a:=by
     rcases(show i - l.length=0∨1≤i - l.length by omega)with e|e
     ·rw [e]at ha;simpa using ha
     ·rw [List.getElem?_eq_none (by simpa using e)]at ha;cases ha
    have ef:fset f p (f p++ [t]) p=f p++ [t]:=if_pos rfl
    simp only
    rw [ef]
    refine⟨hp,by simp,hK.sl hs fun g hg=>?_⟩
    obtain ⟨g',e5,e6,_⟩:=hs.own_some (by simp)
    rw [e5]at hg;cases hg;intro e;cases e;omega
  ·intro q hq
   by_cases e:q=p
   ·subst e;exact⟨v',by simp⟩
   ·obtain ⟨u,hu⟩:=h2.all q (by simpa [fset,e] using hq)
    exact⟨u,by simp [hu]⟩
  ·have key:∀(i:Nat) (a:Nat×Value),l[i]? =some a→a.1≠p∧a.2.ownBlock≠v'.ownBlock:=fun i a ha=>by
    refine⟨hno i a ha,?_⟩
    obtain ⟨g',e5,_,e6⟩:=(h2.ent i a ha).2.2.own_some (h2.ent i a ha).2.1
    rw [e5,ho']
    intro e;cases e;omega
   have last:∀(i:Nat) (a:Nat×Value),(l++ [(p,v')])[i]? =some a→(i<l.length∧l[i]? =some a)∨(i=l.length∧a=(p,v')):=fun i a ha=>by
    rw [List.getElem?_append]at ha
    split at ha
    ·exact .inl ⟨by assumption,ha⟩
    ·rcases(show i - l.length=0∨1≤i - l.length by omega)with e|e
     ·rw [e]at ha;exact .inr ⟨by omega,by simpa using ha.symm⟩
     ·rw [List.getElem?_eq_none (by simpa using e)]at ha;cases ha
   intro i j a b ha hb2 hij
   rcases last i a ha with⟨_,ha⟩|⟨e1,rfl⟩
   ·rcases last j b hb2 with⟨_,hb2⟩|⟨_,rfl⟩
    ·exact h2.sep i j a b ha hb2 hij
    ·exact key i a ha
   ·rcases last j b hb2 with⟨_,hb2⟩|⟨e2,_⟩
    ·exact⟨fun e=>(key j b hb2).1 e.symm,fun e=>(key j b hb2).2 e.symm⟩
    ·omega
 ·obtain ⟨w'',hrun,hM,hK,hsz⟩:=MI.upd_old (val:=v') (u:=v) (j:=j) h1' keyed_A under_A (key:= .int .i64 (p:Int)) hk2 (by simp [hj]) hroom
  have hjl:j<l.length:=(List.getElem?_eq_some_iff.1 hj).1
  obtain ⟨gv,ev,ev2,ev3⟩:=(h2.ent j _ hj).2.2.own_some (h2.ent j _ hj).2.1
  refine⟨w'',hrun,⟨l.set j (p,v'),by simpa [List.map_set] using hM,?_,?_,?_,?_⟩,hK,hsz⟩
  ·have:=h2.len;simp;omega
  ·intro i a ha
   rcases(get_set hjl ha).symm with⟨_,rfl⟩|⟨hij,ha⟩
   ·have ef:fset f p (f p++ [t]) p=f p++ [t]:=if_pos rfl
    simp only
    rw [ef]
    refine⟨hp,by simp,hK.sl hs fun g hg=>?_⟩
    obtain ⟨g',e5,e6,_⟩:=hs.own_some (by simp)
    rw [e5]at hg;cases hg;intro e;cases e;omega
   ·obtain ⟨e1,e2,e3⟩:=h2.ent i a ha
    obtain ⟨e4,e4'⟩:=h2.sep i j a _ ha hj hij
    have ef:fset f p (f p++ [t]) a.1=f a.1:=if_neg e4
    rw [ef]
    refine⟨e1,e2,hK.sl (hk.sl e3 fun g hg=>?_) fun g hg=>?_⟩
    ·intro e;exact e4' (hg.trans e)
    ·obtain ⟨g',e5,e6,_⟩:=e3.own_some e2
     rw [e5]at hg;cases hg;intro e;cases e;omega
  ·intro q hq
   by_cases e:q=p
   ·subst e;exact⟨v',List.mem_of_getElem? (i:=j) (by rw [List.getElem?_set,if_pos rfl,if_pos hjl])⟩
   ·obtain ⟨u,hu⟩:=h2.all q (by simpa [fset,e] using hq)
    obtain ⟨i,hi⟩:=List.getElem?_of_mem hu
    exact⟨u,List.mem_of_getElem? (i:=i) (by
     rw [List.getElem?_set,if_neg,hi]
     intro e2;subst e2;rw [hj]at hi;cases hi;exact e rfl)⟩
  ·have key:∀(i:Nat) (a:Nat×Value),i≠j→l[i]? =some a→a.1≠p∧a.2.ownBlock≠v'.ownBlock:=fun i a hij ha=>by
    obtain ⟨e4,e4'⟩:=h2.sep i j a _ ha hj hij
    refine⟨e4,?_⟩
    rcases ho with ho|ho
    ·rw [ho];exact e4'
    ·obtain ⟨g',e5,_,e6⟩:=(h2.ent i a ha).2.2.own_some (h2.ent i a ha).2.1
     rw [e5,ho]
     intro e;cases e;omega
   have last:∀(i:Nat) (a:Nat×Value),(l.set j (p,v'))[i]? =some a→(i≠j∧l[i]? =some a)∨(i=j∧a=(p,v')):=fun i a ha=>get_set hjl ha
   intro i j' a b ha hb2 hij
   rcases last i a ha with⟨e1,ha⟩|⟨e1,rfl⟩
   ·rcases last j' b hb2 with⟨_,hb2⟩|⟨_,rfl⟩
    ·exact h2.sep i j' a b ha hb2 hij
    ·exact key i a e1 ha
   ·rcases last j' b hb2 with⟨e2,hb2⟩|⟨e2,_⟩
    ·exact⟨fun e=>(key j' b e2 hb2).1 e.symm,fun e=>(key j' b e2 hb2).2 e.symm⟩
    ·omega
theorem run_idx3 (a b c:Value) (n:Nat) (v:Value) (hv:([a,b,c])[n]? =some v) (w:World):(Instr.index 96 (.agg #[a,b,c]) (.int .i64 (n:Int))).run Tryz.prog w= .ok v w:=by
 have hu:Tryz.prog.underlying 96=some (.array 3 3):=by kernel_rfl
 have hu2:Tryz.prog.underlying 3=some (.int .i64):=by kernel_rfl
 have hs1:Tryz.t3.size=1:=by kernel_rfl
 rcases(show n=0∨n=1∨n=2∨3≤n by omega)with rfl|rfl|rfl|h
 ·cases hv
  show _=_
  simp [Instr.index,run_underlying hu,run_underlying hu2,Go.part,Go.isAgg,hs1,asIntOf]
 ·cases hv
  show _=_
  simp [Instr.index,run_underlying hu,run_underlying hu2,Go.part,Go.isAgg,hs1,asIntOf]
 ·cases hv
  show _=_
  simp [Instr.index,run_underlying hu,run_underlying hu2,Go.part,Go.isAgg,hs1,asIntOf]
 ·rw [List.getElem?_eq_none (by simpa using h)]at hv;cases hv
section
variable {P:Program} (w:World) {ops:Array Oper} {rest:List Oper} {o:Oper} {a:Act} {Q:Exit→Act→World→Prop}
theorem wpA_index (hg:o.guard=none) (t:TypeId) (x i:Operand) (hop:o.op=Op.index t x i) (u k v:Value) (hx:a.eval x=u) (hi:a.eval i=k) (hrun:(Instr.index t u k).run P w= .ok v w) (h:wpList P ops Q rest (a.put o.dst v) w):wpList P ops Q (o :: rest) a w:=by
 refine wpList_plain hg fun K' hK'=>?_
 unfold Oper.wp
 simp [execOp,hop,hx,hi,hrun,Result.andThen]
 exact hK' _ _ h
end
def stpA:List (Nat×Nat):= [(0,0),(1,0),(2,0),(0,1),(2,1),(3,1)]
def atN (n:Nat) (p:Nat):List Nat:=((stpA.take n).filter fun s=>s.1 == p).map (·.2)
theorem atN_succ {n p t:Nat} (h:stpA[n]? =some (p,t)):fset (atN n) p (atN n p++ [t])=atN (n+1):=by
 funext q
 simp only [atN,fset,List.take_add_one,h,Option.toList_some,List.filter_append,List.map_append]
 by_cases e:q=p
 ·subst e;simp
 ·rw [if_neg e,List.filter_cons,if_neg (by simp;omega)]
  simp
theorem AtS.step {w'':World} {b lo n p t:Nat} (h:AtS w'' b lo (fset (atN n) p (atN n p++ [t])) (n+1)) (hs:stpA[n]? =some (p,t)):AtS w'' b lo (atN (n+1)) (n+1):=by rwa [atN_succ hs]at h
def AtF (w:World) (b hi:Nat) (f:Nat→List Nat):Prop:=b<hi∧∃l:List (Nat×Value),MI Tryz.prog kA w b (l.map eA)∧∀p,p<4→f p≠ []→∃g cap,(p,Value.slice (some ⟨g,0,none⟩) (f p).length cap)∈l∧g<hi∧(f p).length≤cap∧RC natC 1 w g (f p)
theorem AtS.fix {w:World} {b lo n:Nat} {f:Nat→List Nat} (h:AtS w b lo f n):AtF w b w.heap.size f:=by
 obtain ⟨l,h1,h2⟩:=h
 refine⟨h1.lt,l,h1,fun p _ hf=>?_⟩
 obtain ⟨v,hv⟩:=h2.all p hf
 obtain ⟨j,hj⟩:=List.getElem?_of_mem hv
 obtain ⟨g,cap,e,_,e2,_,e3,e4⟩:=(h2.ent j _ hj).2.2.block hf
 simp only at e
 subst e
 exact⟨g,cap,hv,e3.lt,e2,e4⟩
theorem AtF.gr {w w':World} {b hi:Nat} {f:Nat→List Nat} (h:AtF w b hi f) (hg:Gr hi w w'):AtF w' b hi f:=by
 obtain ⟨h0,l,h1,h2⟩:=h
 refine⟨h0,l,h1.gr hg h0,fun p hp hf=>?_⟩
 obtain ⟨g,cap,h3,h4,h4',h5⟩:=h2 p hp hf
 exact⟨g,cap,h3,h4,h4',h5.gr hg h4⟩
theorem AtF.look {w:World} {b hi p:Nat} {f:Nat→List Nat} (h:AtF w b hi f) (hp:p<4) (hf:f p≠ []):∃g cap,(Instr.lookup 231 (.map (some b)) (.int .i64 (p:Int)) false).run Tryz.prog w= .ok (.slice (some ⟨g,0,none⟩) (f p).length cap) w∧g<hi∧(f p).length≤cap∧RC natC 1 w g (f p):=by
 obtain ⟨h0,l,h1,h2⟩:=h
 obtain ⟨g,cap,h3,h4,h4',h5⟩:=h2 p hp hf
 obtain ⟨kl,hk⟩:=keyOf_A hp
 refine⟨g,cap,?_,h4,h4',h5⟩
 have:=MI.look_some false h1 keyed_A under_A (zero_A w) (key:= .int .i64 (p:Int)) hk (List.mem_map.2 ⟨_,h3,rfl⟩)
 simpa using this
set_option maxRecDepth 20000 in
set_option maxHeartbeats 8000000 in
theorem ms_Numbered (m:Msh) (vp vt vs:Value) (w:World) (hM:MS w 0 vp vt vs m) (hl:∀t∈m.tris,goodT m.pts.length t):Calls Tryz.prog 172 #[.agg #[vp,vt,vs]] w (Ret w (.bool true)):=by
 obtain ⟨hP,hT,hS⟩:=hM
 obtain ⟨ap,cp,rfl⟩:=hP.at
 have hN:=Lib.hid (fun W (hW:Gr w.heap.size w W)=>ms_numbered m.tris m.pts.length vt W (hT.gr hW) hl)
 clear hP hT hS hl
 go_enter Tryz.func172,Tryz.ntmps172
 go_wp2_with fail
 (refine(hN.out _ (by(with_reducible (repeat' (first|exact Gr.refl _ _|refine Gr.drew ?_|refine Gr.setCell ?_ ?_ _|refine Gr.alloc ?_ ?_ _|omega|(simp;done)|(simp;omega)))))).mono ?_;rintro e w1 ⟨rfl,hg1⟩;(try (with_reducible replace hg1:=Gr.of_drew hg1));have hsz1:=hg1.size;(try simp at hsz1);have hz1_0:w.heap.size<w1.heap.size:=(by omega);obtain ⟨hc1,hf1⟩:=hg1.cells;have HG1:=Lib.hid hg1;clear hg1)
 go_wp2
 go_ret
 exact⟨rfl,by(with_reducible (repeat' (first|exact Gr.refl _ _|refine Gr.drew ?_|refine Gr.setCell ?_ ?_ _|refine Gr.alloc ?_ ?_ _|refine Gr.trans ?_ (Gr.mono HG1.out ?_)|omega|(simp;done)|(simp;omega))))⟩
end Go.Proofs.YtmelogdhllhjiaaGreat
namespace Go.Proofs.YtmelogdhllhjiaaGreat
open Go.RowKit Gus
abbrev zL:List Nat:= [0,0,0,0]
theorem holds_z {w:World} {g cap B:Nat} (hS:SL natC 1 3 w B (.slice (some ⟨g,0,none⟩) 4 cap) zL):Sort.Holds (Value.int .i64) w g 0 ([0,0,0,0]:List Int).toArray:=by
 obtain ⟨g',cap',e,_,_,_,hsh,hR⟩:=hS.block (by simp)
 cases e
 intro j hj
 have hj4:j<4:=by simpa using hj
 refine⟨?_,hsh.frozen _⟩
 rcases(show j=0∨j=1∨j=2∨j=3 by omega)with rfl|rfl|rfl|rfl
 ·simpa using hR 0 (by simp) 0 _ rfl
 ·simpa using hR 1 (by simp) 0 _ rfl
 ·simpa using hR 2 (by simp) 0 _ rfl
 ·simpa using hR 3 (by simp) 0 _ rfl
theorem gr_ahead (w:World) (n:Nat) (os:Array Obj):Gr w.heap.size w (Sort.grow (Sort.ahead w n) os):=by
 refine⟨rfl,rfl,rfl,by simp [Sort.grow,Sort.ahead],by simp [Sort.grow,Sort.ahead],fun i hi=>?_⟩
 rw [Sort.heap_grow_old _ _ (by simpa [Sort.ahead] using hi)]
 rfl
theorem sort_zeros (g cap B:Nat) (w:World) (hS:SL natC 1 3 w B (.slice (some ⟨g,0,none⟩) 4 cap) zL):
  Calls Tryz.prog 36 #[.slice (some ⟨g,0,none⟩) 4 cap] w (fun e w'=>e= .returned (.tuple #[])∧Gr w.heap.size w w'):=by
 have hH:=holds_z hS
 obtain ⟨g',cap',e,_,_,_,hsh,_⟩:=hS.block (by simp)
 cases e
 refine(Tryz.slices_Sort_int g 0 cap [0,0,0,0] w hH hsh.lt (by decide)).mono ?_
 rintro e w' ⟨he,n,os,hw⟩
 refine⟨he,?_⟩
 have e1:(([0,0,0,0]:List Int).mergeSort fun x y=>decide (x≤y))= [0,0,0,0]:=(List.eq_replicate_iff (n:=4)).2 ⟨List.length_mergeSort _,fun b hb=>by
  have h:=List.mem_mergeSort.1 hb
  simp at h
  exact h⟩
 have h2:Sort.putRow (Value.int .i64) (Sort.ahead w n) g 0 ([0,0,0,0]:List Int).toArray=Sort.ahead w n:=Sort.putRow_self _ _ _ _ _ hH
 rw [e1,h2]at hw
 subst hw
 exact gr_ahead w n os
theorem compact_zeros (g cap B:Nat) (w:World) (hS:SL natC 1 3 w B (.slice (some ⟨g,0,none⟩) 4 cap) zL):
  Calls Tryz.prog 37 #[.slice (some ⟨g,0,none⟩) 4 cap] w (fun e w'=>e= .returned (.slice (some ⟨g,0,none⟩) 1 cap)∧Gr w.heap.size w w'):=by
 have hH:=holds_z hS
 obtain ⟨g',cap',e,_,hcap,_,hsh,_⟩:=hS.block (by simp)
 cases e
 refine(Tryz.slices_Compact_int g 0 cap [0,0,0,0] w hH (by decide) (by simpa using hcap)).mono ?_
 rintro e w' ⟨he,q,hw⟩
 have e1:Lib.compact ([0,0,0,0]:List Int)= [0]:=by decide
 have h2:Sort.putRow (Value.int .i64) (Sort.ahead w q) g 0 ([0,0,0,0]:List Int).toArray=Sort.ahead w q:=Sort.putRow_self _ _ _ _ _ hH
 rw [e1]at he hw
 refine⟨he,?_⟩
 have h3:w'=Sort.ahead w q:=hw.trans h2
 subst h3
 simpa using gr_ahead w q #[]
theorem contains_nil (w:World):Calls Tryz.prog 38 #[.slice none 0 0,.int .i64 0] w (Ret w (.bool false)):=
 (Tryz.slices_Contains_int_empty none 0 0 w).mono (by rintro e w' ⟨h1,rfl⟩;exact⟨h1,Gr.refl _ _⟩)
theorem contains_zero (g:Nat) (w:World) (hV:VB w g [.int .i64 0]):Calls Tryz.prog 38 #[.slice (some ⟨g,0,none⟩) 1 1,.int .i64 0] w (Ret w (.bool true)):=
 (Tryz.slices_Contains_int g 0 1 1 [0] 0 w (by simp) (by omega) (fun j hj=>by
  simp at hj
  subst hj
  exact hV.c 0 _ rfl)).mono (by rintro e w' ⟨h1,rfl⟩;exact⟨h1,Gr.refl _ _⟩)
end Go.Proofs.YtmelogdhllhjiaaGreat
