/-
  Part 2 of the proof: Base NatA.
-/
import Derived.Test.YtfgmdhjmgdccdaaGreatProg
import Derived.Test.YtfgmdhjmgdccdaaGreatJ1
import Derived.WalkKit
import Derived.WalkSpells
import Derived.WalkLawsBesides
import Derived.Deep.RegionHeld3
import Derived.Deep.QuietTactic
import Derived.BigQuiet
import Derived.Deep.RegionWith
import Derived.KernelRfl
import Derived.Lib.Hide
import Derived.Maps.AppendAt
import Derived.Deep.AppendLies
import Derived.Laws.MakeOwn
import Derived.Laws.BitsAllLaws
set_option linter.unusedSimpArgs false
set_option linter.unusedVariables false
set_option maxHeartbeats 8000000
namespace Go.Proofs.YtfgmdhjmgdccdaaGreat
open Go.RowKit
structure Gr (B:Nat) (w w':World):Prop where
 os:w'.os=w.os
 tape:w'.tape=w.tape
 output:w'.output=w.output
 drawn:w.drawn≤w'.drawn
 size:w.heap.size≤w'.heap.size
 block:∀k,k<B→w'.heap[k]? =w.heap[k]?
section
variable {B:Nat} {a b c w w':World}
theorem Gr.refl (B:Nat) (w:World):Gr B w w:=⟨rfl,rfl,rfl,Nat.le_refl _,Nat.le_refl _,fun _ _=>rfl⟩
theorem Gr.trans (h:Gr B a b) (k:Gr B b c):Gr B a c:=
 ⟨k.os.trans h.os,k.tape.trans h.tape,k.output.trans h.output,Nat.le_trans h.drawn k.drawn,Nat.le_trans h.size k.size,fun i hi=>(k.block i hi).trans (h.block i hi)⟩
theorem Gr.mono {B':Nat} (h:Gr B w w') (hB:B'≤B):Gr B' w w':=⟨h.os,h.tape,h.output,h.drawn,h.size,fun k hk=>h.block k (Nat.lt_of_lt_of_le hk hB)⟩
theorem Gr.below (h:Gr B w w'):Below B w w':=⟨h.os,h.tape,h.output,h.size,h.block⟩
theorem Gr.drew (h:Gr B a w):Gr B a w.drew:=⟨h.os,h.tape,h.output,Nat.le_succ_of_le h.drawn,h.size,h.block⟩
theorem Gr.drewN (h:Gr B a w) (n:Nat):Gr B a (w.drewN n):=⟨h.os,h.tape,h.output,Nat.le_trans h.drawn (Nat.le_add_right _ _),h.size,h.block⟩
theorem Gr.alloc (h:Gr B a w) (hB:B≤w.heap.size) (o:Obj):Gr B a (w.alloc o):=
 h.trans ⟨rfl,rfl,rfl,Nat.le_refl _,by simp,fun k hk=>Below.heap_alloc _ _ _ (by omega)⟩
theorem Gr.setCell (h:Gr B a w) {p:Addr} (hp:B≤p.block) (u:Value):Gr B a (w.setCell p u):=
 h.trans ⟨rfl,rfl,rfl,Nat.le_refl _,by simp [World.setCell],fun k hk=>Below.heap_setCell _ _ _ _ (by omega)⟩
theorem Gr.cell (h:Gr B w w') {p:Addr} (hp:p.block<B):w'.cell? p=w.cell? p:=h.below.cell hp
theorem Gr.frozen (h:Gr B w w') {p:Addr} (hp:p.block<B):w'.frozen? p=w.frozen? p:=h.below.frozen hp
theorem Gr.of_drew (h:Gr w.drew.heap.size w.drew w'):Gr w.heap.size w w':=⟨h.os,h.tape,h.output,Nat.le_of_succ_le h.drawn,h.size,h.block⟩
theorem Gr.cells (h:Gr B w w'):(∀b o,b<B→w'.cell? ⟨b,o,none⟩=w.cell? ⟨b,o,none⟩)∧(∀b o,b<B→w'.frozen? ⟨b,o,none⟩=w.frozen? ⟨b,o,none⟩):=
 ⟨fun b o h'=>h.cell (p:=⟨b,o,none⟩) h',fun b o h'=>h.frozen (p:=⟨b,o,none⟩) h'⟩
end
theorem ask_drawn {α:Type}:∀(q:Ask α) (w:World),w.drawn≤(w.ask q).2.drawn
 | .done _,_=>Nat.le_refl _
 | .ask what range k,w=>by
  unfold World.ask
  simp only
  split
  ·exact ask_drawn (k 0) w
  ·exact Nat.le_trans (Nat.le_succ _) (ask_drawn (k _) {w with drawn:=w.drawn+1})
theorem sys_drawn (c:Sys) (w:World):w.drawn≤(w.sys c).2.drawn:=by
 unfold World.sys
 have h:=ask_drawn (Kernel.perform c w.os) w
 split
 ·exact Nat.le_refl _
 ·rename_i heq;rw [heq]at h;exact h
theorem viewStore_drawn {p:Program} {w w1:World} {at_:Addr} {u:TypeId} {k:Addr} {v:Value} {b:Bool} {l:List Addr} (h:w.viewStore p at_ u k v b= .ok (w1,l)):w1.drawn=w.drawn:=by
 unfold World.viewStore at h
 simp only [bind,Except.bind,pure,Except.pure]at h
 repeat' (first|(cases h;done)|(cases h;rfl;done)|split at h)
theorem run_drawn {α:Type} (P:Program):∀(s:Sem α) (w w':World) (a:α),s.run P w= .ok a w'→w.drawn≤w'.drawn
 | .pure a,w,w',b,h=>by simp only [Sem.run,Result.ok.injEq]at h;rw [h.2];exact Nat.le_refl _
 | .load m a k,w,w',b,h=>by
  simp only [Sem.run]at h
  split at h
  ·exact run_drawn P _ w w' b h
  ·split at h
   ·exact run_drawn P _ w w' b h
   ·cases h
 | .store m a v k,w,w',b,h=>by
  have key:∀X:Result α,X= .ok b w'→(X=(match w.cell? a with
    | some _=>if w.frozen? a then .halt (.unsupported (.unsafePointer "a write to bytes that a string shares")) w else k.run P (w.setCell a v)
    | none=>match w.farStore P a v (m == .atomic) with
     | .ok (w,_)=>k.run P w
     | .error h=> .halt h w))→w.drawn≤w'.drawn:=by
   intro X hX he
   rw [hX]at he
   split at he
   ·split at he
    ·cases he
    ·exact run_drawn P k (w.setCell a v) w' b he.symm
   ·split at he
    ·rename_i w1 l hf
     have h1:w1.drawn=w.drawn:=by
      unfold World.farStore at hf
      split at hf
      ·split at hf
       ·rename_i hv
        cases hf
        exact viewStore_drawn hv
       ·cases hf
      ·cases hf
     rw [←h1]
     exact run_drawn P k w1 w' b he.symm
    ·cases he
  cases v<;>first|(simp only [Sem.run]at h;cases h;done)|exact key _ h rfl
 | .new o k,w,w',b,h=>by
  simp only [Sem.run]at h
  exact run_drawn P _ {w with heap:=w.heap.push o} w' b h
 | .shape r k,w,w',b,h=>by simp only [Sem.run]at h;exact run_drawn P _ w w' b h
 | .freeze a n k,w,w',b,h=>by
  simp only [Sem.run]at h
  have:=run_drawn P _ (w.freeze a n) w' b h
  have e:(w.freeze a n).drawn=w.drawn:=by unfold World.freeze;split<;>rfl
  omega
 | .frozen a k,w,w',b,h=>by simp only [Sem.run]at h;exact run_drawn P _ w w' b h
 | .getObj r k,w,w',b,h=>by
  simp only [Sem.run]at h
  split at h
  ·cases h
  ·exact run_drawn P _ w w' b h
  ·cases h
 | .setObj r o k,w,w',b,h=>by
  simp only [Sem.run]at h
  split at h
  ·cases h
  ·exact run_drawn P _ {w with heap:=w.heap.setIfInBounds r o} w' b h
  ·cases h
 | .choose q k,w,w',b,h=>by
  simp only [Sem.run]at h
  split at h
  ·exact run_drawn P _ w w' b h
  ·exact Nat.le_trans (Nat.le_succ _) (run_drawn P _ {w with drawn:=w.drawn+1} w' b h)
 | .sys c k,w,w',b,h=>by
  simp only [Sem.run]at h
  exact Nat.le_trans (sys_drawn c w) (run_drawn P _ _ w' b h)
 | .program k,w,w',b,h=>by simp only [Sem.run]at h;exact run_drawn P _ w w' b h
 | .mark m k,w,w',b,h=>by simp only [Sem.run]at h;exact run_drawn P _ w w' b h
 | .halt x,w,w',b,h=>by simp [Sem.run]at h
open Gus
abbrev natV (n:Nat):Value:= .agg #[.int .u64 (lowN n),.string (bigS n)]
def U32 (B:Nat) (w:World) (v:Value) (n:Nat) (f:Nat→Nat):Prop:=
 ∃A cap,v= .slice A n cap∧n≤cap∧(0<n→∃g o,A=some ⟨g,o,none⟩∧B≤g∧g<w.heap.size∧
  ∀j,j<n→w.cell? ⟨g,o+j,none⟩=some (.int .u32 (f j))∧w.frozen? ⟨g,o+j,none⟩=false)
def lenOf:Value→Nat| .slice _ n _=>n|_=>0
section
variable {B:Nat} {w w':World} {v:Value} {n:Nat} {f f':Nat→Nat}
theorem U32.nil (B:Nat) (w:World) (f:Nat→Nat):U32 B w (.slice none 0 0) 0 f:=⟨none,0,rfl,Nat.le_refl _,fun h=>absurd h (by omega)⟩
theorem U32.congr (h:U32 B w v n f) (hf:∀i,i<n→f i=f' i):U32 B w v n f':=by
 obtain ⟨A,cap,hv,hc,h⟩:=h
 refine⟨A,cap,hv,hc,fun hn=>?_⟩
 obtain ⟨g,o,hA,hB,hg,hj⟩:=h hn
 exact⟨g,o,hA,hB,hg,fun j hjn=>by rw [←hf j hjn];exact hj j hjn⟩
theorem U32.take {A:Option Addr} {cap m:Nat} (h:U32 B w (.slice A n cap) n f) (hm:m≤n):U32 B w (.slice A m cap) m f:=by
 obtain ⟨A',cap',hv,hc,h⟩:=h
 cases hv
 refine⟨A,cap,rfl,by omega,fun h0=>?_⟩
 obtain ⟨g,o,hA,hB,hg,hj⟩:=h (by omega)
 exact⟨g,o,hA,hB,hg,fun j hjm=>hj j (by omega)⟩
theorem U32.open (h:U32 B w v n f):∃A cap,v= .slice A n cap∧n≤cap∧U32 B w (.slice A n cap) n f:=by
 obtain ⟨A,cap,rfl,hc,h'⟩:=h
 exact⟨A,cap,rfl,hc,A,cap,rfl,hc,h'⟩
theorem U32.at_ {A:Option Addr} {cap k:Nat} (h:U32 B w (.slice A n cap) n f) (hk:k<n):∃g o,A=some ⟨g,o,none⟩∧B≤g∧g<w.heap.size∧
  w.cell? ⟨g,o+k,none⟩=some (.int .u32 (f k))∧w.frozen? ⟨g,o+k,none⟩=false:=by
 obtain ⟨A',cap',hv,hc,h⟩:=h
 cases hv
 obtain ⟨g,o,hA,hB,hg,hj⟩:=h (by omega)
 exact⟨g,o,hA,hB,hg,hj k hk⟩
theorem U32.mono {B':Nat} (h:U32 B w v n f) (hB:B'≤B):U32 B' w v n f:=by
 obtain ⟨A,cap,hv,hc,h⟩:=h
 refine⟨A,cap,hv,hc,fun hn=>?_⟩
 obtain ⟨g,o,hA,hB',hg,hj⟩:=h hn
 exact⟨g,o,hA,by omega,hg,hj⟩
theorem U32.gr {B':Nat} (h:U32 B w v n f) (hg:Gr B' w w') (hB:w.heap.size≤B'):U32 B w' v n f:=by
 obtain ⟨A,cap,hv,hc,h⟩:=h
 refine⟨A,cap,hv,hc,fun hn=>?_⟩
 obtain ⟨g,o,hA,hB',hgs,hj⟩:=h hn
 refine⟨g,o,hA,hB',by have:=hg.size;omega,fun j hjn=>?_⟩
 rw [hg.cell (p:=⟨g,o+j,none⟩) (by show g<B';omega),hg.frozen (p:=⟨g,o+j,none⟩) (by show g<B';omega)]
 exact hj j hjn
end
section
variable {P:Program}
theorem run_make_rowN (t e:TypeId) (i:TypeInfo) (z:Value) (ht:P.underlying t=some (.slice e)) (hi:P.info? e=some i) (hz:i.zero=some z)
  (kl kc:IntKind) (n c:Nat) (hnc:n≤c) (hbytes:i.bytes*c≤281474976710656) (h63:c≤9223372036854775807) (w:World):
  (Instr.makeSlice t (.int kl (n:Int)) (.int kc (c:Int))).run P w= .ok (.slice (some ⟨w.heap.size,0,none⟩) n c) (w.alloc (.cells (madeCells z.cells (c*i.size)) e)):=by
 have hb:(i.bytes:Int)*(c:Int)≤281474976710656:=by
  have h:((i.bytes*c:Nat):Int)≤281474976710656:=by omega
  rwa [Int.natCast_mul]at h
 have hr:=run_make (P:=P) w t e i z ht hi hz kl kc n c (by omega) (by omega) hb (by omega)
 simp only [Int.toNat_natCast]at hr
 exact hr
structure Apd (base:Nat) (e:TypeId) (size:Nat) (w w':World) (v v':Value) (n:Nat) (xs:List Value):Prop where
 own:w'.ownsRow base e size v' n xs
 by_:w.grownBy w' v.ownBlock
 drawn:w.drawn≤w'.drawn
 at_:v'.ownBlock=v.ownBlock∨v'.ownBlock=some w.heap.size
theorem Apd.gr {base:Nat} {e:TypeId} {size:Nat} {w w':World} {v v':Value} {n:Nat} {xs:List Value} (h:Apd base e size w w' v v' n xs) {B:Nat} {a:World} (hg:Gr B a w) (hB:B≤w.heap.size)
  (hr:∀k,v.ownBlock=some k→B≤k):Gr B a w':=
 hg.trans ⟨h.by_.os,h.by_.tape,h.by_.output,h.drawn,h.by_.size,fun k hk=>h.by_.block k (by omega) (fun e=>by have:=hr k e.symm;omega)⟩
theorem wpList_app (w:World) {ops:Array Oper} {rest:List Oper} {o:Oper} {a:Act} {Q:Exit→Act→World→Prop} (hg:o.guard=none) (s x:Operand) (t:TypeId)
  (hop:o.op= .call {callee:= .builtin .append,args:= #[s,x],argTypes:= #[t,t]})
  (base:Nat) (e:TypeId) (i:TypeInfo) (z:Value) (size bytes:Nat) (ht:P.underlying t=some (.slice e)) (hi:P.info? e=some i) (hz:i.zero=some z)
  (hsize:i.size=size) (hby:i.bytes=bytes) (hzs:z.cells.size=size) (hsz:0<size)
  (v:Value) (n:Nat) (xs:List Value) (hs:a.eval s=v) (hown:w.ownsRow base e size v n xs)
  (ad:Addr) (m c:Nat) (news:List Value) (hx:a.eval x= .slice (some ad) m c) (hl:news.length=m*size) (hnews:∀j u,news[j]? =some u→w.cell? (ad.add j)=some u) (h1:∀u∈news,u.oneCell'=true)
  (h63:n+m≤maxLen) (hbytes:(n+m)*bytes≤140737488355328) (hbase:base≤w.heap.size)
  (h:∀v' w',Apd base e size w w' v v' (n+m) (xs++news)→wpList P ops Q rest (a.put o.dst v') w'):wpList P ops Q (o :: rest) a w:=by
 refine wpList_plain hg fun K hK=>?_
 obtain ⟨v',w',hrun,h2,h3,_,h5⟩:=run_append_own_at (P:=P) w base t o.type e i z size bytes ht hi hz hsize hby hzs hsz v n xs hown ad m c news hl hnews h1 h63 hbytes hbase
 have hd:=run_drawn P _ _ _ _ hrun
 unfold Oper.wp execOp
 simp only [hop,resolve,invoke,builtin,Sem.run_bind,Sem.run_pure,Result.andThen_ok,List.map_toArray,List.map_cons,List.map_nil,hs,hx,hrun]
 exact hK _ _ (h v' w' ⟨h2,h3,hd,h5⟩)
end
theorem cell_set {w:World} {g i:Nat} {u:Value} (v:Value) (h:w.cell? ⟨g,i,none⟩=some u) (g' j:Nat):
  (w.setCell ⟨g,i,none⟩ v).cell? ⟨g',j,none⟩=if g'=g∧j=i then some v else w.cell? ⟨g',j,none⟩:=by
 by_cases hg:g'=g
 ·subst hg
  unfold World.cell? World.setCell at *
  simp only [Option.isSome_none,Bool.false_eq_true,if_false,Array.getElem?_modify]at *
  split at h
  ·rename_i c e fr hb
   rw [hb]
   simp only [if_true,Option.map_some,true_and]
   rw [Array.getElem?_setIfInBounds]
   by_cases hj:j=i
   ·subst hj
    have:=(Array.getElem?_eq_some_iff.1 h).1
    simp [this]
   ·rw [if_neg (fun e=>hj e.symm),if_neg hj]
  ·cases h
 ·rw [if_neg (fun e=>hg e.1)]
  exact World.cell?_of_block (by rw [Below.heap_setCell _ _ _ _ (by exact hg)])
theorem set2 {w:World} {b:Nat} {x0 x1:Value} (v0 v1:Value) (h0:w.cell? ⟨b,0,none⟩=some x0) (h1:w.cell? ⟨b,1,none⟩=some x1):
  (w.setCell ⟨b,0,none⟩ v0).cell? ⟨b,0,none⟩=some v0∧(w.setCell ⟨b,0,none⟩ v0).cell? ⟨b,1,none⟩=some x1∧
   ((w.setCell ⟨b,0,none⟩ v0).setCell ⟨b,1,none⟩ v1).cell? ⟨b,0,none⟩=some v0∧((w.setCell ⟨b,0,none⟩ v0).setCell ⟨b,1,none⟩ v1).cell? ⟨b,1,none⟩=some v1:=by
 have a0:(w.setCell ⟨b,0,none⟩ v0).cell? ⟨b,0,none⟩=some v0:=(cell_set v0 h0 b 0).trans (if_pos ⟨rfl,rfl⟩)
 have a1:(w.setCell ⟨b,0,none⟩ v0).cell? ⟨b,1,none⟩=some x1:=((cell_set v0 h0 b 1).trans (if_neg (by omega))).trans h1
 exact⟨a0,a1,((cell_set v1 a1 b 0).trans (if_neg (by omega))).trans a0,(cell_set v1 a1 b 1).trans (if_pos ⟨rfl,rfl⟩)⟩
theorem madeCells_one (z:Value) (n j:Nat) (h:j<n):(madeCells #[z] n)[j]? =some z:=by
 simp [madeCells,h,Nat.mod_one]
def Ret (w:World) (v:Value) (e:Ending) (w':World):Prop:=e= .returned v∧Gr w.heap.size w w'
theorem pS:(∀(a:Act) (v:Value),a.put none v=a)∧(∀(a:Act) (d:Tmp) (v:Value),a.put (some d) v= {a with tmps:=a.tmps.setIfInBounds d v})∧(∀(l:List Value) (i:Nat) (v:Value),l.toArray.setIfInBounds i v=(l.set i v).toArray)∧(∀(x:Value) (l:List Value) (v:Value),(x :: l).set 0 v=v :: l)∧(∀(x:Value) (l:List Value) (i:Nat) (v:Value),(x :: l).set (i+1) v=x :: l.set i v):=
 ⟨fun _ _=>rfl,fun _ _ _=>rfl,fun _ _ _=>by simp,fun _ _ _=>rfl,fun _ _ _ _=>rfl⟩
section
variable {P:Program} {ops:Array Oper} {Q:Exit→Act→World→Prop} {md:Region.Mode} {S:World→Prop} {fuel:Nat} {listed:Array Bool} {a:Act} {w:World} {oi:Oper}
theorem tk (i:Nat) (d:Option Tmp) (v:Value) (h:wpAnyH P md ops Q S fuel (listed.setIfInBounds i true) (a.put d v) w) (hi:ops[i]? =some oi:=by rfl) (hd:oi.dst=d:=by rfl) (hs:Region.noSelect ops=true:=by kernel_rfl) (hf:Region.free md ops listed i=true:=by kernel_rfl) (hr:(Region.ready md ops listed).contains i=true:=by kernel_rfl)
  (hQ:∀c a w,Q (.panic c) (a.put oi.dst v) w→Q (.panic c) a w:=by exact fun _ _ _ h=>h) (hy:YieldsIf P ops S oi v a:=by exact .inl ⟨by rfl,fun _ h=>by(try dsimp only at h);go_simp⟩) (hS:S w:=by assumption):wpAnyH P md ops Q S (fuel+1) listed a w:=by
 subst hd
 exact wpAnyH_take hi hs hf hr hQ hy hS h
theorem rd (i:Nat) (h:∀K':Act→World→Prop,Shut (∀a w,S w→(S w→wpAnyH P md ops Q S fuel (listed.setIfInBounds i true) a w)→K' a w)→if Region.wanted oi (yielded ops a.tmps)=true then Oper.wp P oi a w K' Q else K' (a.put oi.dst undef) w)
  (hr:Region.ready md ops listed= [i]:=by kernel_rfl) (ho:ops[i]? =some oi:=by rfl):wpAnyH P md ops Q S (fuel+1) listed a w:=
 wpAnyH_ready hr (by simp) (AllReadyH.cons ho h AllReadyH.nil)
end
theorem gzz {n:Nat} {a b:World} (h:Gr n a b:=by(with_reducible (repeat' (first|exact Gr.refl _ _|refine Gr.drew ?_|refine Gr.setCell ?_ ?_ _|refine Gr.alloc ?_ ?_ _|omega|(simp;done)|(simp;omega))))):Gr n a b:=h
theorem gcc {n m:Nat} {a b c d:World} (H:Hid (Gr m b c)) (k:Gr n a b) (t:Gr n c d:=by(with_reducible (repeat' (first|exact Gr.refl _ _|refine Gr.drew ?_|refine Gr.setCell ?_ ?_ _|refine Gr.alloc ?_ ?_ _|omega|(simp;done)|(simp;omega))))) (o:n≤m:=by(first|omega|(simp;done)|(simp;omega))):Gr n a d:=(k.trans (H.out.mono o)).trans t
theorem rtt {P:Program} {f:FuncId} {args:Array Value} {w w0:World} {v:Value} {Q:Ending→World→Prop} (h:Calls P f args w (Ret w v)) (k:∀w',w0.heap.size≤w'.heap.size→(∀b o,b<w0.heap.size→w'.cell? ⟨b,o,none⟩=w0.cell? ⟨b,o,none⟩)→(∀b o,b<w0.heap.size→w'.frozen? ⟨b,o,none⟩=w0.frozen? ⟨b,o,none⟩)→Hid (Gr w0.heap.size w0 w')→Q (.returned v) w') (e:w=w0∨w=w0.drew:=by first|(with_reducible exact .inr rfl)|exact .inl rfl):Calls P f args w Q:=
 h.mono fun x w' ⟨hx,hg⟩=>by
  subst hx
  rcases e with rfl|rfl
  ·exact k w' hg.size hg.cells.1 hg.cells.2 (Lib.hid hg)
  ·have hg:=Gr.of_drew hg
   exact k w' hg.size hg.cells.1 hg.cells.2 (Lib.hid hg)
theorem rtp {P:Program} {f:FuncId} {args:Array Value} {w w0:World} {S:World→Value→Prop} {Q:Ending→World→Prop} (h:Calls P f args w (fun e w'=> ∃v,e= .returned v∧S w' v∧Gr w.heap.size w w')) (k:∀w' v,Hid (S w' v)→w0.heap.size≤w'.heap.size→(∀b o,b<w0.heap.size→w'.cell? ⟨b,o,none⟩=w0.cell? ⟨b,o,none⟩)→(∀b o,b<w0.heap.size→w'.frozen? ⟨b,o,none⟩=w0.frozen? ⟨b,o,none⟩)→Hid (Gr w0.heap.size w0 w')→Q (.returned v) w') (e:w=w0∨w=w0.drew:=by first|(with_reducible exact .inr rfl)|exact .inl rfl):Calls P f args w Q:=
 h.mono fun x w' ⟨v,hx,hS,hg⟩=>by
  subst hx
  rcases e with rfl|rfl
  ·exact k w' v (Lib.hid hS) hg.size hg.cells.1 hg.cells.2 (Lib.hid hg)
  ·have hg:=Gr.of_drew hg
   exact k w' v (Lib.hid hS) hg.size hg.cells.1 hg.cells.2 (Lib.hid hg)
theorem tq {P:Program} {ops:Array Oper} {Q:Exit→Act→World→Prop} {md:Region.Mode} {S:World→Prop} {fuel:Nat} {listed:Array Bool} {a:Act} {w:World} {oi:Oper} (i:Nat) (d:Tmp) (v:Value) {a':Act} (h:wpAnyH P md ops Q S fuel (listed.setIfInBounds i true) a' w) (e:a.put (some d) v=a':=by first|(simp only [pS];done)|(simp only [pS];rfl)|rfl) (hi:ops[i]? =some oi:=by rfl) (hd:oi.dst=some d:=by rfl) (hs:Region.noSelect ops=true:=by kernel_rfl) (hf:Region.free md ops listed i=true:=by kernel_rfl) (hr:(Region.ready md ops listed).contains i=true:=by kernel_rfl)
  (hQ:∀c a w,Q (.panic c) (a.put oi.dst v) w→Q (.panic c) a w:=by exact fun _ _ _ h=>h) (hy:YieldsIf P ops S oi v a:=by exact .inl ⟨by rfl,fun _ h=>by(try dsimp only at h);go_simp⟩) (hS:S w:=by assumption):wpAnyH P md ops Q S (fuel+1) listed a w:=
 tk i (some d) v (e ▸ h) hi hd hs hf hr hQ hy hS
theorem kO {S:World→Prop} {X K:Act→World→Prop} {a a':Act} {w:World} (hK:Shut (∀a w,S w→(S w→X a w)→K a w)) (h:S w→X a' w) (hS:S w:=by first|exact trivial|((try dsimp only);simp [go_sem, *])) (e:a=a':=by first|(simp only [pS];done)|(simp only [pS];rfl)|rfl):K a w:=hK.out a w hS (e ▸ h)
theorem Lh {p:Prop} (h:p):Hid p:=Lib.hid h
abbrev zU:Value:= .int .u64 0
abbrev zS:Value:= .string ⟨#[]⟩
theorem rtu {P:Program} {f:FuncId} {args:Array Value} {w w0:World} {v:Value} {Q:Ending→World→Prop} (h:Calls P f args w (Ret w v)) (k:∀w',w0.heap.size≤w'.heap.size→(∀b,b<w0.heap.size→b<w'.heap.size)→(∀b o,b<w0.heap.size→w'.cell? ⟨b,o,none⟩=w0.cell? ⟨b,o,none⟩)→(∀b o,b<w0.heap.size→w'.frozen? ⟨b,o,none⟩=w0.frozen? ⟨b,o,none⟩)→Hid (Gr w0.heap.size w0 w')→Q (.returned v) w') (e:w=w0∨w=w0.drew:=by first|(with_reducible exact .inr rfl)|exact .inl rfl):Calls P f args w Q:=
 rtt h (fun w' h1 h2 h3 h4=>k w' h1 (fun _ hb=>Nat.lt_of_lt_of_le hb h1) h2 h3 h4) e
theorem rtv {P:Program} {f:FuncId} {args:Array Value} {w w0:World} {S:World→Value→Prop} {Q:Ending→World→Prop} (h:Calls P f args w (fun e w'=> ∃v,e= .returned v∧S w' v∧Gr w.heap.size w w')) (k:∀w' v,Hid (S w' v)→w0.heap.size≤w'.heap.size→(∀b,b<w0.heap.size→b<w'.heap.size)→(∀b o,b<w0.heap.size→w'.cell? ⟨b,o,none⟩=w0.cell? ⟨b,o,none⟩)→(∀b o,b<w0.heap.size→w'.frozen? ⟨b,o,none⟩=w0.frozen? ⟨b,o,none⟩)→Hid (Gr w0.heap.size w0 w')→Q (.returned v) w') (e:w=w0∨w=w0.drew:=by first|(with_reducible exact .inr rfl)|exact .inl rfl):Calls P f args w Q:=
 rtp h (fun w' v hS h1 h2 h3 h4=>k w' v hS h1 (fun _ hb=>Nat.lt_of_lt_of_le hb h1) h2 h3 h4) e
theorem rdZ {P:Program} {ops:Array Oper} {Q:Exit→Act→World→Prop} {md:Region.Mode} {S:World→Prop} {fuel:Nat} {listed:Array Bool} {a:Act} {w:World} {oi oj:Oper} (i j:Nat) (h:∀K':Act→World→Prop,Shut (∀a w,S w→(S w→wpAnyH P md ops Q S fuel (listed.setIfInBounds i true) a w)→K' a w)→if Region.wanted oi (yielded ops a.tmps)=true then Oper.wp P oi a w K' Q else K' (a.put oi.dst undef) w)
  (h2:∀K':Act→World→Prop,Shut (∀a w,S w→(S w→wpAnyH P md ops Q S fuel (listed.setIfInBounds j true) a w)→K' a w)→if Region.wanted oj (yielded ops a.tmps)=true then Oper.wp P oj a w K' Q else K' (a.put oj.dst undef) w)
  (hr:Region.ready md ops listed= [i,j]:=by kernel_rfl) (ho:ops[i]? =some oi:=by rfl) (hp:ops[j]? =some oj:=by rfl):wpAnyH P md ops Q S (fuel+1) listed a w:=
 wpAnyH_ready hr (by simp) (AllReadyH.cons ho h (AllReadyH.cons hp h2 AllReadyH.nil))
end Go.Proofs.YtfgmdhjmgdccdaaGreat
namespace Go.Proofs.YtfgmdhjmgdccdaaGreat
open Go.RowKit Gus
theorem info_u32:(Tryz.prog.info? 78).map (fun i=>(i.zero,i.size,i.bytes))=some (some (.int .u32 0),1,4):=by kernel_rfl
theorem cut_end {f:Nat→Nat} {n k:Nat} (hd:∀i,i<n→f i<4294967296) (hk:k≤n) (hz:∀j,k≤j→j<n→f j=0) (ht:k=0∨f (k - 1)≠0):wl (vf f n)=k:=by
 rw [vf_zero_above n hk hz]
 exact wl_vf (fun i hi=>hd i (by omega)) ht
set_option maxHeartbeats 400000 in
theorem nats_cut {B:Nat} {A:Option Addr} {n cap:Nat} {f:Nat→Nat} {w:World} (hd:∀i,i<n→f i<4294967296) (hn:n≤1099511627776) (h:U32 B w (.slice A n cap) n f):
  Calls Tryz.prog 166 #[.slice A n cap] w fun e w'=>e= .returned (.slice A (wl (vf f n)) cap)∧w=w':=by
 obtain ⟨A,cap,⟨⟩,hcap,hc⟩:=h
 have HC:=Lh hc
 have HD:=Lh hd
 clear hc hd
 go_enter Tryz.func166,Tryz.ntmps166
 go_wp2
 go_loop [0] (fun s=> ∃k:Nat,k≤n∧s= .slice A k cap∧Hid (∀j,k≤j→j<n→f j=0)) (fun s=>lenOf s)
 case atStart=>exact⟨n,Nat.le_refl _,rfl,fun j h1 h2=>by omega⟩
 case round=>
  obtain ⟨k,hk,rfl,hz⟩:=hrel
  by_cases h0:k=0
  ·subst h0
   go_wp2
   go_ret
   exact⟨by rw [cut_end HD.out hk hz.out (.inl rfl)];rfl,rfl⟩
  ·obtain ⟨j,rfl⟩:∃j,k=j+1:=⟨k - 1,by omega⟩
   obtain ⟨g,o,rfl,hB,hg,hcell⟩:=HC.out (by omega)
   have hcj:=(hcell j (by omega)).1
   clear hcell
   by_cases hf:f j=0
   ·have hf':((f j:Nat):Int)=0:=by omega
    go_wp2
    go_round
    case rel=>
     refine⟨j,by omega,rfl,fun i h1 h2=>?_⟩
     by_cases hij:i=j
     ·subst hij;exact hf
     ·exact hz.out i (by omega) h2
    case measure=>simp [lenOf]
   ·have hf':(((f j:Nat):Int) == 0)=false:=by simp;omega
    have HF:=Lh hf
    clear hf
    go_wp2
    go_ret
    exact⟨by rw [cut_end HD.out hk hz.out (.inr HF.out)];rfl,rfl⟩
def RetW (w:World) (n:Nat) (f:Nat→Nat) (e:Ending) (w':World):Prop:= ∃v',e= .returned v'∧U32 w.heap.size w' v' n f∧Gr w.heap.size w w'
theorem dig_two {n:Nat}:vf (fun i=>if i=0 then n % 4294967296 else n / 4294967296) 2=n:=by
 show 0+(n % 4294967296)*1+(n / 4294967296)*4294967296=n
 omega
theorem dig_01 {n i:Nat} (hn:n<18446744073709551616) (hi:i<wl n):(if i=0 then n % 4294967296 else n / 4294967296)=dig n i:=by
 have h:=wl_lt64 hn
 unfold dig
 match i,(show i<2 by omega) with
 | 0,_=>simp
 | 1,_=>simp;omega
set_option maxHeartbeats 400000 in
theorem words_small {n:Nat} {w:World} (hn:n<18446744073709551616):Calls Tryz.prog 124 #[natV n] w (RetW w (wl n) (dig n)):=by
 have hb:=bigS_small hn
 have hl:=lowN_small hn
 unfold natV
 rw [hb,hl]
 clear hb hl
 have hcut:U32 w.heap.size ((w.alloc (.cells #[.int .u64 (n:Int),.string ⟨#[]⟩] 53)).alloc (.cells #[.int .u32 ((n:Int) % 4294967296),.int .u32 ((n:Int) / 4294967296)] 78)) (.slice (some ⟨w.heap.size+1,0,none⟩) 2 2) 2
   (fun i=>if i=0 then n % 4294967296 else n / 4294967296):=by
  refine⟨_,2,rfl,Nat.le_refl _,fun _=>⟨w.heap.size+1,0,rfl,by omega,by simp,fun j hj=>?_⟩⟩
  rw [World.cell?_alloc_at _ _ _ _ (by simp)]
  refine⟨?_,?_⟩
  ·match j,hj with
   | 0,_=>simp
   | 1,_=>simp
  ·exact World.frozen?_alloc_at _ _ _ _ (by simp)
 have HC:=Lh hcut
 clear hcut
 go_enter Tryz.func124,Tryz.ntmps124
 go_wp2_with fail
 refine(nats_cut (fun i hi=>by split<;>omega) (by omega) HC.out).mono ?_
 rintro e w' ⟨rfl,rfl⟩
 rw [dig_two]
 have h2:=wl_lt64 hn
 go_wp2
 go_ret
 refine⟨_,rfl,(HC.out.take h2).congr fun i hi=>dig_01 hn hi,?_⟩
 exact((Gr.refl _ _).alloc (Nat.le_refl _) _).alloc (by simp) _
def wpart (n i k j:Nat):Nat:=if j<i then dig n j else if j=i then n / 4294967296 ^ i % 256 ^ k else 0
theorem wpart_next (n i j:Nat):wpart n i 4 j=wpart n (i+1) 0 j:=by
 unfold wpart
 by_cases h1:j<i
 ·rw [if_pos h1,if_pos (by omega)]
 ·by_cases h2:j=i
  ·subst h2;rw [if_neg h1,if_pos rfl,if_pos (by omega)];rfl
  ·rw [if_neg h1,if_neg h2,if_neg (by omega)];split<;>simp [Nat.mod_one]
theorem wpart_start (n j:Nat):wpart n 0 0 j=0:=by
 unfold wpart;rw [if_neg (by omega)];split<;>simp [Nat.mod_one]
theorem wpart_end {n i j:Nat} (h:j<i):wpart n i 0 j=dig n j:=by unfold wpart;rw [if_pos h]
theorem or_byte (n i k:Nat) (hk:k<4):
  bits .or .u32 ((wpart n i k i:Nat):Int) (((byteN n (4*i+k):Nat):Int)*2 ^ (8*k) % 4294967296)=((wpart n i (k+1) i:Nat):Int):=by
 have e:∀k,wpart n i k i=n / 4294967296 ^ i % 256 ^ k:=fun k=>by unfold wpart;rw [if_neg (by omega),if_pos rfl]
 have hb:byteN n (4*i+k)=n / 4294967296 ^ i / 256 ^ k % 256:=by
  unfold byteN
  rw [Nat.pow_add,Nat.pow_mul,←Nat.div_div_eq_div_mul]
 have e8:∀k:Nat,(2:Nat) ^ (8*k)=256 ^ k:=fun k=>by rw [Nat.pow_mul]
 rw [e,e,hb]
 generalize n / 4294967296 ^ i=q
 have h1:q % 256 ^ k<256 ^ k:=Nat.mod_lt _ (Nat.pow_pos (by omega))
 have h2:q / 256 ^ k % 256<256:=Nat.mod_lt _ (by omega)
 have h3:(256:Nat) ^ k*256≤4294967296:=by
  have:(256:Nat) ^ (k+1)≤256 ^ 4:=Nat.pow_le_pow_right (by omega) (by omega)
  rw [Nat.pow_succ]at this;omega
 have h4:q / 256 ^ k % 256*256 ^ k+256 ^ k≤4294967296:=by
  have:(q / 256 ^ k % 256+1)*256 ^ k≤256*256 ^ k:=Nat.mul_le_mul_right _ (by omega)
  rw [Nat.add_mul,Nat.one_mul]at this
  rw [Nat.mul_comm]at h3;omega
 have e3:(((q / 256 ^ k % 256:Nat):Int)*2 ^ (8*k) % 4294967296)=((q / 256 ^ k % 256*256 ^ k:Nat):Int):=by
  have:((2:Int) ^ (8*k))=((256 ^ k:Nat):Int):=by rw [←e8];simp
  rw [this,←Int.natCast_mul]
  have hp:0<256 ^ k:=Nat.pow_pos (by omega)
  omega
 have hp:0<256 ^ k:=Nat.pow_pos (by omega)
 rw [e3,u32_or_nat _ _ (by omega) (by omega)]
 congr 1
 have h5:q % 256 ^ k ||| q / 256 ^ k % 256*256 ^ k=q / 256 ^ k % 256*256 ^ k+q % 256 ^ k:=by
  rw [Nat.or_comm]
  have:=nat_join (8*k) (q / 256 ^ k % 256*256 ^ k) (q % 256 ^ k) (by rw [e8];exact Nat.mul_mod_left _ _) (by rw [e8];exact h1)
  exact this
 rw [h5,Nat.pow_succ,Nat.mod_mul,Nat.mul_comm,Nat.add_comm]
structure WordsAt (w wr:World) (n i k:Nat):Prop where
 gr:Gr w.heap.size w wr
 box:wr.cell? ⟨w.heap.size,1,none⟩=some (.string (bigS n))
 size:w.heap.size+1<wr.heap.size
 cell:∀j,j<wl n→wr.cell? ⟨w.heap.size+1,j,none⟩=some (.int .u32 (wpart n i k j))
 free:∀j,j<wl n→wr.frozen? ⟨w.heap.size+1,j,none⟩=false
theorem WordsAt.step {w wr:World} {n i k:Nat} (h:WordsAt w wr n i k) (hi:i<wl n) (hk:k<4):
  WordsAt w (wr.setCell ⟨w.heap.size+1,i,none⟩ (.int .u32 (bits .or .u32 ((wpart n i k i:Nat):Int) (((byteN n (4*i+k):Nat):Int)*2 ^ (8*k) % 4294967296)))).drew n i (k+1):=by
 rw [or_byte n i k hk]
 have hc:=cell_set (.int .u32 ((wpart n i (k+1) i:Nat):Int)) (h.cell i hi)
 refine⟨(h.gr.setCell (by simp) _).drew,?_,?_,?_,?_⟩
 ·have:=hc w.heap.size 1
  rw [if_neg (by omega)]at this
  exact this.trans h.box
 ·simpa using h.size
 ·intro j hj
  have:=hc (w.heap.size+1) j
  refine this.trans ?_
  by_cases hji:j=i
  ·subst hji;rw [if_pos ⟨rfl,rfl⟩]
  ·rw [if_neg (fun e=>hji e.2),h.cell j hj]
   unfold wpart
   by_cases h1:j<i
   ·rw [if_pos h1,if_pos h1]
   ·rw [if_neg h1,if_neg h1,if_neg hji,if_neg hji]
 ·intro j hj
  have:(wr.setCell ⟨w.heap.size+1,i,none⟩ (.int .u32 ((wpart n i (k+1) i:Nat):Int))).drew.frozen? ⟨w.heap.size+1,j,none⟩=wr.frozen? ⟨w.heap.size+1,j,none⟩:=World.frozen?_setCell _ _ _ _
  rw [this];exact h.free j hj
theorem WordsAt.start (w:World) (n:Nat):
  WordsAt w ((w.alloc (.cells #[.int .u64 (lowN n),.string (bigS n)] 53)).alloc (.cells (madeCells #[.int .u32 0] (wl n)) 78)) n 0 0:=by
 refine⟨((Gr.refl _ _).alloc (Nat.le_refl _) _).alloc (by simp) _,by simp [go_sem],by simp,fun j hj=>?_,fun j _=>World.frozen?_alloc_at _ _ _ _ (by simp)⟩
 rw [World.cell?_alloc_at _ _ _ _ (by simp),madeCells_one _ _ _ hj,wpart_start];rfl
theorem bigS_ne {n:Nat} (hn:18446744073709551616≤n):(bigS n).toList≠ []:=by
 intro h
 have h1:=bigS_size hn
 have h2:=wl_big hn
 have h3:(bigS n).toList.length=(bigS n).size:=by rw [ByteArray.toList_eq];rfl
 rw [h]at h3
 simp at h3
 omega
set_option maxHeartbeats 400000 in
theorem words_big {n:Nat} {w:World} (hn:18446744073709551616≤n) (hw:wl n≤1099511627776):Calls Tryz.prog 124 #[natV n] w (RetW w (wl n) (dig n)):=by
 have hsz:=bigS_size hn
 have hne2:=bigS_ne hn
 have hne:(bigS n).toList.isEmpty=false:=by simpa using hne2
 obtain ⟨i0,hi,hz0,hz1,hz2⟩:=info_parts info_u32
 have hmk:∀W:World,(Instr.makeSlice 210 (.int .i64 (((bigS n).size:Int) / 4)) (.int .i64 (((bigS n).size:Int) / 4))).run Tryz.prog W =
   .ok (.slice (some ⟨W.heap.size,0,none⟩) (wl n) (wl n)) (W.alloc (.cells (madeCells #[.int .u32 0] (wl n)) 78)):=by
  intro W
  have e:((bigS n).size:Int) / 4=((wl n:Nat):Int):=by omega
  rw [e,run_make_rowN 210 78 i0 _ Tryz.underlying210 hi hz0 .i64 .i64 (wl n) (wl n) (Nat.le_refl _) (by rw [hz2];omega) (by omega) W,hz1,Nat.mul_one]
  rfl
 have hix:∀i k:Nat,i<wl n→k<4→∀W:World,(Instr.index 9 (.string (bigS n)) (.int .i64 (4*(i:Int)+(k:Int)))).run Tryz.prog W= .ok (.int .u8 (byteN n (4*i+k))) W:=by
  intro i k hi hk W
  have hlt:4*i+k<(bigS n).size:=by omega
  have e:(4*(i:Int)+(k:Int))=((4*i+k:Nat):Int):=by omega
  rw [e,run_index_string _ _ _ _ _ Tryz.underlying9,dif_pos ⟨by omega,by omega⟩]
  simp only [Int.toNat_natCast,bigS_get hn hlt]
 have HI:=Lh hix
 have HN:=Lh hn
 have HS:=Lh hsz
 have hs2:((bigS n).size:Int)≤4398046511104:=by omega
 clear hn hsz hi hz0 hz1 hz2 hix
 unfold natV
 go_enter Tryz.func124,Tryz.ntmps124
 go_wp2
 go_loopw [25] (fun s wr=> ∃i:Nat,i≤wl n∧s= .int .i64 i∧WordsAt w wr n i 0) (fun s _=>wl n - (intOf s).toNat)
 case atStart=>exact⟨0,Nat.zero_le _,rfl,WordsAt.start w n⟩
 case round=>
  obtain ⟨i,hi,rfl,hm⟩:=hrel
  by_cases hlt:i<wl n
  ·go_wp2
   go_loopw [28] (fun s wi=> ∃k:Nat,k≤4∧s= .int .i64 k∧WordsAt w wi n i k) (fun s _=>4 - (intOf s).toNat)
   case atStart=>exact⟨0,by omega,rfl,hm⟩
   case round=>
    obtain ⟨k,hk,rfl,hm⟩:=hrel
    by_cases hlt2:k<4
    ·have hbox:=hm.box
     have hc:=hm.cell i hlt
     have hfr:=hm.free i hlt
     have hb:=byteN_lt n (4*i+k)
     have hix:=HI.out i k hlt hlt2
     have HM:=Lh (hm.step hlt hlt2)
     clear hm
     go_wp2
     go_region
     go_wp2
     go_roundw
     case rel=>exact⟨k+1,by omega,by go_num,HM.out⟩
     case measure=>simp [intOf];omega
    ·obtain rfl:k=4:=by omega
     have HM:=Lh hm
     clear hm
     go_wp2
     go_roundw
     case rel=>
      have h4:=HM.out
      exact⟨i+1,by omega,by go_num,h4.gr,h4.box,h4.size,fun j hj=>by rw [←wpart_next];exact h4.cell j hj,h4.free⟩
     case measure=>simp [intOf];omega
  ·obtain rfl:i=wl n:=by omega
   have HM:=Lh hm
   clear hm
   go_wp2
   go_ret
   have h4:=HM.out
   exact⟨_,rfl,⟨_,_,rfl,Nat.le_refl _,fun _=>⟨w.heap.size+1,0,rfl,by omega,h4.size,fun j hj=>by
    rw [Nat.zero_add,h4.cell j hj,wpart_end hj];exact⟨rfl,h4.free j hj⟩⟩⟩,h4.gr⟩
theorem nats_words (n:Nat) (w:World) (hw:wl n≤1099511627776):Calls Tryz.prog 124 #[natV n] w (RetW w (wl n) (dig n)):=by
 rcases Nat.lt_or_ge n 18446744073709551616 with h|h
 ·exact words_small h
 ·exact words_big h hw
end Go.Proofs.YtfgmdhjmgdccdaaGreat
