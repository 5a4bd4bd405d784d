/-
  Part 50 of the proof: OpenI FinI.
-/
import Derived.Test.YtfgmdhjmgdccdaaGreatJ45
import Derived.Test.YtfgmdhjmgdccdaaGreatJ32
import Derived.Deep.Strs
import Derived.ProofKit
import Derived.OpenShut
import Derived.Test.YtfgmdhjmgdccdaaGreatJ49
import Derived.Test.YtfgmdhjmgdccdaaGreatJ42
set_option linter.unusedSimpArgs false
set_option linter.unusedVariables false
set_option maxHeartbeats 8000000
namespace Go.Proofs.YtfgmdhjmgdccdaaGreat
open Go.ChangeShapes Go.WideShapes Go.RowKit Go.Deep
theorem cellsM:Tryz.prog.cellsOf 26=9:=by kernel_rfl
theorem cellsU:Tryz.prog.cellsOf 5=1:=by kernel_rfl
theorem cellsI8:Tryz.prog.cellsOf 23=1:=by kernel_rfl
theorem cellsB:Tryz.prog.cellsOf 22=1:=by kernel_rfl
theorem cells48:Tryz.prog.cellsOf 24=4:=by kernel_rfl
theorem list9 {α:Type} (l:List α) (h:(⟨l⟩:Array α).size=9):∃a b c d e f g i j,l= [a,b,c,d,e,f,g,i,j]:=by
 match l,h with
 | [a,b,c,d,e,f,g,i,j],_=>exact⟨a,b,c,d,e,f,g,i,j,rfl⟩
theorem len4' {α:Type} (l:List α) (h:l.length=4):∃a b c d,l= [a,b,c,d]:=by
 match l,h with
 | [a,b,c,d],_=>exact⟨a,b,c,d,rfl⟩
theorem cell_lt' {w:World} {a:Addr} {v:Value} (h:w.cell? a=some v):a.block<w.heap.size:=by
 rcases Nat.lt_or_ge a.block w.heap.size with h'|h'
 ·exact h'
 ·simp [World.cell?,Array.getElem?_eq_none h']at h
theorem open_U {H:Type} {enc:TypeId×Value→H} {w:World} {base m:Nat} {sp:Nat→Bool} {hd:Bool} {c:Value} {y:DataW H×List MemPlace} (h:DataW.trod enc Tryz.prog w base sp hd m 5 [c]=some y):
  ∃n:Nat,c= .int .u8 (n:Int)∧n<256:=by
 obtain ⟨n,e,rfl,w0⟩:=DataW.trod_int Tryz.underlying5 h
 simp at e
 subst e
 have hb:=bounds_u8 w0
 exact⟨n.toNat,by rw [Int.toNat_of_nonneg hb.1],by omega⟩
theorem open_I8 {H:Type} {enc:TypeId×Value→H} {w:World} {base m:Nat} {sp:Nat→Bool} {hd:Bool} {c:Value} {y:DataW H×List MemPlace} (h:DataW.trod enc Tryz.prog w base sp hd m 23 [c]=some y):
  ∃n:Int,c= .int .i8 n:=by
 obtain ⟨n,e,rfl,w0⟩:=DataW.trod_int Tryz.underlying23 h
 simp at e
 exact⟨n,e⟩
theorem open_Bs {H:Type} {enc:TypeId×Value→H} {w:World} {m:Nat} {sp:Nat→Bool} {hd:Bool} {c:Value} {y:DataW H×List MemPlace} (h:DataW.trod enc Tryz.prog w 0 sp hd m 22 [c]=some y):
  ∃l:List Nat,BS w c l∧∀b∈l,b<256:=by
 rcases open_slice1 Tryz.underlying22 cellsU h with⟨e,_⟩|⟨a,len,cap,m',n,V,D,Pl,e,_,hl,hm,rfl,_,hi⟩
 ·simp at e
  subst e
  exact⟨[],⟨by simp [maxLen],.inl ⟨_,_,rfl,rfl⟩⟩,by simp⟩
 ·simp at e
  subst e
  have key:∀i,i<len→∃b:Nat,b<256∧w.cell? (a.add i)=some (.int .u8 (b:Int)):=by
   intro i hlt
   obtain ⟨h1,h2⟩:=hi i (by split<;>omega)
   obtain ⟨b,hb,hb2⟩:=open_U h2
   exact⟨b,hb2,hb ▸ h1⟩
  obtain ⟨f,hf⟩:= @choose_lt Nat ⟨0⟩ len _ key
  refine⟨(List.range len).map f,⟨by simp;omega,?_⟩,by
   intro t ht
   obtain ⟨i,hi,rfl⟩:=List.mem_map.1 ht
   exact(hf i (List.mem_range.1 hi)).1⟩
  rcases Nat.eq_zero_or_pos len with h0|h0
  ·subst h0
   exact .inl ⟨_,_,rfl,rfl⟩
  ·obtain ⟨b,off,spot⟩:=a
   have hspot:spot=none:=by simpa [Addr.add] using World.cell?_spot (hf 0 h0).2
   subst hspot
   refine .inr ⟨b,off,cap,by simp,cell_lt' (hf 0 h0).2,fun j hj=>?_⟩
   have hj':j<len:=by simpa using hj
   have g0:=(hf j hj').2
   rw [Go.WideShapes.add_plain]at g0
   simpa using g0
theorem trod_struct6 {H:Type} {enc:TypeId×Value→H} {P:Program} {w:World} {base:Nat} {spare:Nat→Bool} {held:Bool} {t:TypeId} {f0 f1 f2 f3 f4 f5:Field} {fuel:Nat} {cs:List Value} {x:DataW H×List MemPlace} (ht:P.underlying t=some (.struct #[f0,f1,f2,f3,f4,f5])) (h:DataW.trod enc P w base spare held fuel t cs=some x):
  ∃y0 y1 y2 y3 y4 y5 n,DataW.trod enc P w base spare held n f0.type ((cs.drop f0.offset).take (P.cellsOf f0.type))=some y0∧
   DataW.trod enc P w base spare held n f1.type ((cs.drop f1.offset).take (P.cellsOf f1.type))=some y1∧DataW.trod enc P w base spare held n f2.type ((cs.drop f2.offset).take (P.cellsOf f2.type))=some y2∧
   DataW.trod enc P w base spare held n f3.type ((cs.drop f3.offset).take (P.cellsOf f3.type))=some y3∧DataW.trod enc P w base spare held n f4.type ((cs.drop f4.offset).take (P.cellsOf f4.type))=some y4∧DataW.trod enc P w base spare held n f5.type ((cs.drop f5.offset).take (P.cellsOf f5.type))=some y5:=by
 obtain ⟨xs,n,_,rfl,hl,hlen,hf⟩:=DataW.trod_struct ht h
 match xs,hlen with
 | [y0,y1,y2,y3,y4,y5],_=>exact⟨y0,y1,y2,y3,y4,y5,n,by simpa using hf 0 f0 rfl,by simpa using hf 1 f1 rfl,by simpa using hf 2 f2 rfl,by simpa using hf 3 f3 rfl,by simpa using hf 4 f4 rfl,by simpa using hf 5 f5 rfl⟩
set_option maxRecDepth 100000 in
theorem open_M {H:Type} {enc:TypeId×Value→H} {w:World} {b0:Nat} {sp:Nat→Bool} {hd:Bool} {v:Value} {d:DataW H} {ps:List MemPlace} (hval:Value.okWide Tryz.prog w .any b0 26 v) (h:DataW.Trod enc Tryz.prog w 0 sp hd 26 v d ps):
  ∃(x:RawM) (c:Value),v= .agg #[.int .u8 (x.nx:Int),.int .u8 (x.ny:Int),c,.int .i8 x.m0,.int .i8 x.m1,.int .i8 x.m2,.int .i8 x.m3,.int .u8 (x.den:Int),.int .u8 (x.fi:Int)]∧x.Ok∧BS w c x.bs:=by
 obtain ⟨cs,rfl,hsz,_⟩:∃cs,v= .agg cs∧cs.size=Tryz.prog.cellsOf 26∧Row.okWide Tryz.prog w .any b0 26 cs:=by
  simpa [Value.okWide,Tryz.underlying26] using hval
 rw [cellsM]at hsz
 obtain ⟨l⟩:=cs
 obtain ⟨c0,c1,c2,c3,c4,c5,c6,c7,c8,rfl⟩:=list9 l hsz
 obtain ⟨fuel,hf⟩:=h
 obtain ⟨y0,y1,y2,y3,y4,y5,n,h0,h1,h2,h3,h4,h5⟩:=trod_struct6 Tryz.underlying26 hf
 rw [cellsU]at h0 h1 h4 h5
 rw [cellsB]at h2
 rw [cells48]at h3
 obtain ⟨nx,rfl,p0⟩:=open_U (by simpa [Value.cells] using h0)
 obtain ⟨ny,rfl,p1⟩:=open_U (by simpa [Value.cells] using h1)
 obtain ⟨bs,p2,q2⟩:=open_Bs (c:=c2) (by simpa [Value.cells] using h2)
 obtain ⟨den,rfl,p4⟩:=open_U (by simpa [Value.cells] using h4)
 obtain ⟨fi,rfl,p5⟩:=open_U (by simpa [Value.cells] using h5)
 obtain ⟨xs,m,rfl,hx,_,hl,hi⟩:=DataW.trod_array Tryz.underlying24 h3
 obtain ⟨x0,x1,x2,x3,rfl⟩:=len4' xs hl
 have i0:=hi 0 (by omega)
 have i1:=hi 1 (by omega)
 have i2:=hi 2 (by omega)
 have i3:=hi 3 (by omega)
 rw [cellsI8]at i0 i1 i2 i3
 obtain ⟨m0,rfl⟩:=open_I8 (y:=x0) (by simpa [Value.cells] using i0)
 obtain ⟨m1,rfl⟩:=open_I8 (y:=x1) (by simpa [Value.cells] using i1)
 obtain ⟨m2,rfl⟩:=open_I8 (y:=x2) (by simpa [Value.cells] using i2)
 obtain ⟨m3,rfl⟩:=open_I8 (y:=x3) (by simpa [Value.cells] using i3)
 exact⟨⟨nx,ny,den,fi,m0,m1,m2,m3,bs⟩,c2,rfl,⟨p0,p1,p4,p5,q2⟩,p2⟩
theorem kept_B {w w':World} (h:Below w.heap.size w w') (may:MemPlace→Prop):w.keptBut w' may:=by
 refine⟨h.os,h.output,fun i hi=>?_⟩
 rw [h.block i hi]
 cases e:w.heap[i]? with
 | none=>rfl
 | some o=>cases o<;>first|rfl|exact⟨rfl,rfl,rfl,fun _ _=>rfl⟩|exact .inr ⟨rfl,rfl⟩
theorem cellsQ:Tryz.prog.cellsOf 80=2:=by kernel_rfl
theorem cellsT:Tryz.prog.cellsOf 180=4:=by kernel_rfl
theorem cellsN:Tryz.prog.cellsOf 2=1:=by kernel_rfl
theorem cellsI:Tryz.prog.cellsOf 3=1:=by kernel_rfl
theorem cellsD:Tryz.prog.cellsOf 78=1:=by kernel_rfl
theorem cellsLT:Tryz.prog.cellsOf 76=1:=by kernel_rfl
theorem cells4 {w:World} {b:Nat} {a:Addr} {cs:List Value} (h:w.cells? b a 4=some cs):∃c0 c1 c2 c3,cs= [c0,c1,c2,c3]∧w.cell? (a.add 0)=some c0∧w.cell? (a.add 1)=some c1∧w.cell? (a.add 2)=some c2∧w.cell? (a.add 3)=some c3:=by
 unfold World.cells? at h
 split at h
 ·rw [show List.range 4= [0,1,2,3]from rfl]at h
  simp only [List.mapM_cons,List.mapM_nil,bind,Option.bind_eq_some_iff,pure,Option.some.injEq]at h
  obtain ⟨c0,h0,x,⟨c1,h1,y,⟨c2,h2,z,⟨c3,h3,u,rfl,rfl⟩,rfl⟩,rfl⟩,rfl⟩:=h
  exact⟨_,_,_,_,rfl,h0,h1,h2,h3⟩
 ·cases h
set_option maxRecDepth 100000 in
theorem open_Q {H:Type} {enc:TypeId×Value→H} {w:World} {base m:Nat} {sp:Nat→Bool} {hd:Bool} {c d:Value} {y:DataW H×List MemPlace} (h:DataW.trod enc Tryz.prog w base sp hd m 80 [c,d]=some y):
  ∃(n:Int) (b:Nat),c= .int .i64 n∧d= .int .u32 (b:Int)∧i64ok n∧b<4294967296:=by
 obtain ⟨y0,y1,k,rfl,_,h0,h1⟩:=trod_struct2 Tryz.underlying80 h
 obtain ⟨n,e0,rfl,w0⟩:=DataW.trod_int Tryz.underlying2 h0
 obtain ⟨b,e1,rfl,w1⟩:=DataW.trod_int Tryz.underlying78 h1
 rw [cellsN]at e0
 rw [cellsD]at e1
 simp at e0 e1
 subst e0 e1
 have hb:=bounds_u32 w1
 obtain ⟨b',rfl⟩:∃b':Nat,b=(b':Int):=⟨b.toNat,by omega⟩
 exact⟨n,b',rfl,rfl,bounds_i64 w0,by omega⟩
set_option maxRecDepth 100000 in
theorem open_T {H:Type} {enc:TypeId×Value→H} {w:World} {base m:Nat} {sp:Nat→Bool} {hd:Bool} {c0 c1 c2 c3:Value} {y:DataW H×List MemPlace} (h:DataW.trod enc Tryz.prog w base sp hd m 180 [c0,c1,c2,c3]=some y):
  ∃t:TQ,t.ok∧tqC t= [c0,c1,c2,c3]:=by
 obtain ⟨y0,y1,y2,k,rfl,_,h0,h1,h2⟩:=trod_struct3 Tryz.underlying180 h
 obtain ⟨i,e0,rfl,w0⟩:=DataW.trod_int Tryz.underlying3 h0
 obtain ⟨j,e1,rfl,w1⟩:=DataW.trod_int Tryz.underlying3 h1
 rw [cellsI]at e0 e1
 rw [cellsQ]at h2
 simp at e0 e1 h2
 obtain ⟨n,b,rfl,rfl,p,q⟩:=open_Q h2
 subst e0 e1
 exact⟨⟨i,j,n,b⟩,⟨bounds_i64 w0,bounds_i64 w1,p,q⟩,rfl⟩
set_option maxRecDepth 100000 in
theorem open_L {H:Type} {enc:TypeId×Value→H} {w:World} {m:Nat} {sp:Nat→Bool} {hd:Bool} {c:Value} {y:DataW H×List MemPlace} (h:DataW.trod enc Tryz.prog w 0 sp hd m 76 [c]=some y):
  ∃l:List TQ,RS tqC 4 w c l∧∀t∈l,t.ok:=by
 rcases open_slice Tryz.underlying76 h with⟨e,_⟩|⟨a,len,cap,m',n,D,Pl,e,_,hl,hm,rfl,_,hi⟩
 ·simp at e
  subst e
  exact⟨[],.inl ⟨_,_,rfl,rfl⟩,by simp⟩
 ·simp at e
  subst e
  rw [cellsT]at hi
  have key:∀i,i<len→∃t:TQ,t.ok∧w.cell? (a.add (i*4))=some (.int .i64 t.i)∧w.cell? (a.add (i*4+1))=some (.int .i64 t.j)∧w.cell? (a.add (i*4+2))=some (.int .i64 t.n)∧w.cell? (a.add (i*4+3))=some (.int .u32 (t.d:Int)):=by
   intro i hlt
   obtain ⟨cs,h1,h2⟩:=hi i (by split<;>omega)
   obtain ⟨c0,c1,c2,c3,rfl,g0,g1,g2,g3⟩:=cells4 h1
   obtain ⟨t,ht,e⟩:=open_T h2
   simp only [tqC,List.cons.injEq,and_true]at e
   obtain ⟨rfl,rfl,rfl,rfl⟩:=e
   rw [add_add]at g0 g1 g2 g3
   exact⟨t,ht,g0,g1,g2,g3⟩
  obtain ⟨f,hf⟩:= @choose_lt TQ ⟨⟨0,0,0,0⟩⟩ len _ key
  refine⟨(List.range len).map f,?_,by
   intro t ht
   obtain ⟨i,hi,rfl⟩:=List.mem_map.1 ht
   exact(hf i (List.mem_range.1 hi)).1⟩
  rcases Nat.eq_zero_or_pos len with h0|h0
  ·subst h0
   exact .inl ⟨_,_,rfl,rfl⟩
  ·obtain ⟨b,off,spot⟩:=a
   have hspot:spot=none:=by simpa [Addr.add] using World.cell?_spot (hf 0 h0).2.1
   subst hspot
   refine .inr ⟨b,off,cap,by simp,?_,?_⟩
   ·have h1:=(hf 0 h0).2.1
    exact cell_lt' h1
   ·intro j hj i u hu
    have hj':j<len:=by simpa using hj
    obtain ⟨_,g0,g1,g2,g3⟩:=hf j hj'
    simp only [List.getElem_map,List.getElem_range]at hu
    rw [Go.WideShapes.add_plain]at g0 g1 g2 g3
    rw [Nat.add_assoc]
    match i,hu with
    | 0,hu=>simp at hu;subst hu;exact g0
    | 1,hu=>simp at hu;subst hu;exact g1
    | 2,hu=>simp at hu;subst hu;exact g2
    | 3,hu=>simp at hu;subst hu;exact g3
    | n+4,hu=>simp at hu
theorem cellsZ:Tryz.prog.cellsOf 77=2:=by kernel_rfl
theorem len2 {α:Type} (l:List α) (h:l.length=2):∃a b,l= [a,b]:=by
 match l,h with
 | [a,b],_=>exact⟨a,b,rfl⟩
theorem list2 {α:Type} (l:List α) (h:(⟨l⟩:Array α).size=2):∃a b,l= [a,b]:=by
 match l,h with
 | [a,b],_=>exact⟨a,b,rfl⟩
set_option maxRecDepth 100000 in
theorem open_Z {H:Type} {enc:TypeId×Value→H} {w:World} {b0:Nat} {sp:Nat→Bool} {hd:Bool} {v:Value} {d:DataW H} {ps:List MemPlace} (hval:Value.okWide Tryz.prog w .any b0 77 v) (h:DataW.Trod enc Tryz.prog w 0 sp hd 77 v d ps):
  ∃(c0 c1:Value) (l0 l1:List TQ),v= .agg #[c0,c1]∧RS tqC 4 w c0 l0∧RS tqC 4 w c1 l1∧(∀t∈l0,t.ok)∧∀t∈l1,t.ok:=by
 obtain ⟨cs,rfl,hsz,_⟩:∃cs,v= .agg cs∧cs.size=Tryz.prog.cellsOf 77∧Row.okWide Tryz.prog w .any b0 77 cs:=by
  simpa [Value.okWide,Tryz.underlying77] using hval
 rw [cellsZ]at hsz
 obtain ⟨l⟩:=cs
 obtain ⟨c0,c1,rfl⟩:=list2 l hsz
 obtain ⟨fuel,hf⟩:=h
 obtain ⟨xs,m,rfl,hx,_,hl,hi⟩:=DataW.trod_array Tryz.underlying77 hf
 obtain ⟨x0,x1,rfl⟩:=len2 xs hl
 have h0:=hi 0 (by omega)
 have h1:=hi 1 (by omega)
 rw [cellsLT]at h0 h1
 obtain ⟨l0,p0,q0⟩:=open_L (y:=x0) (by simpa [Value.cells] using h0)
 obtain ⟨l1,p1,q1⟩:=open_L (y:=x1) (by simpa [Value.cells] using h1)
 exact⟨c0,c1,l0,l1,rfl,p0,p1,q0,q1⟩
theorem cellsK:Tryz.prog.cellsOf 81=6:=by kernel_rfl
theorem list6 {α:Type} (l:List α) (h:(⟨l⟩:Array α).size=6):∃a b c d e f,l= [a,b,c,d,e,f]:=by
 match l,h with
 | [a,b,c,d,e,f],_=>exact⟨a,b,c,d,e,f,rfl⟩
theorem len3 {α:Type} (l:List α) (h:l.length=3):∃a b c,l= [a,b,c]:=by
 match l,h with
 | [a,b,c],_=>exact⟨a,b,c,rfl⟩
set_option maxRecDepth 100000 in
theorem open_K {H:Type} {enc:TypeId×Value→H} {w:World} {base b0:Nat} {sp:Nat→Bool} {hd:Bool} {v:Value} {d:DataW H} {ps:List MemPlace} (hval:Value.okWide Tryz.prog w .any b0 81 v) (h:DataW.Trod enc Tryz.prog w base sp hd 81 v d ps):
  ∃(n0:Int) (d0:Nat) (n1:Int) (d1:Nat) (n2:Int) (d2:Nat),v= .agg #[.int .i64 n0,.int .u32 (d0:Int),.int .i64 n1,.int .u32 (d1:Int),.int .i64 n2,.int .u32 (d2:Int)]∧(i64ok n0∧i64ok n1∧i64ok n2)∧d0<4294967296∧d1<4294967296∧d2<4294967296:=by
 obtain ⟨cs,rfl,hsz,_⟩:∃cs,v= .agg cs∧cs.size=Tryz.prog.cellsOf 81∧Row.okWide Tryz.prog w .any b0 81 cs:=by
  simpa [Value.okWide,Tryz.underlying81] using hval
 rw [cellsK]at hsz
 obtain ⟨l⟩:=cs
 obtain ⟨c0,c1,c2,c3,c4,c5,rfl⟩:=list6 l hsz
 obtain ⟨fuel,hf⟩:=h
 obtain ⟨xs,m,rfl,hx,_,hl,hi⟩:=DataW.trod_array Tryz.underlying81 hf
 obtain ⟨x0,x1,x2,rfl⟩:=len3 xs hl
 have h0:=hi 0 (by omega)
 have h1:=hi 1 (by omega)
 have h2:=hi 2 (by omega)
 rw [cellsQ]at h0 h1 h2
 obtain ⟨n0,d0,rfl,rfl,p0,q0⟩:=open_Q (y:=x0) (by simpa [Value.cells] using h0)
 obtain ⟨n1,d1,rfl,rfl,p1,q1⟩:=open_Q (y:=x1) (by simpa [Value.cells] using h1)
 obtain ⟨n2,d2,rfl,rfl,p2,q2⟩:=open_Q (y:=x2) (by simpa [Value.cells] using h2)
 exact⟨n0,d0,n1,d1,n2,d2,rfl,⟨p0,p1,p2⟩,q0,q1,q2⟩
end Go.Proofs.YtfgmdhjmgdccdaaGreat
namespace Go.Proofs.YtfgmdhjmgdccdaaGreat
open Go.RowKit Gus Go.Maps
def madeS (l:List TQ):List T:=if l.length≤6 then madeL l else []
theorem madeS_ok (l:List TQ) (h:∀t∈l,t.ok):D4 (madeS l)∧tot (madeS l)≤100:=by
 unfold madeS
 split
 ·exact⟨d4_made l,tot_madeL h (by omega)⟩
 ·exact⟨fun t ht=>by simp at ht,by simp [tot]⟩
theorem interp_true (x:RawM) (hx:x.Ok) (c z0 z1:Value) (l0 l1:List TQ) (o0:∀t∈l0,t.ok) (o1:∀t∈l1,t.ok) (k0 k1 k2:Int) (e0 e1 e2:Nat) (hk:i64ok k0∧i64ok k1∧i64ok k2) (he:e0<4294967296∧e1<4294967296∧e2<4294967296) (w:World) (hS:BS w c x.bs) (r0:RS tqC 4 w z0 l0) (r1:RS tqC 4 w z1 l1):
  Calls Tryz.prog 4 #[.agg #[.int .u8 (x.nx:Int),.int .u8 (x.ny:Int),c,.int .i8 x.m0,.int .i8 x.m1,.int .i8 x.m2,.int .i8 x.m3,.int .u8 (x.den:Int),.int .u8 (x.fi:Int)],.agg #[z0,z1],.agg #[.int .i64 k0,.int .u32 (e0:Int),.int .i64 k1,.int .u32 (e1:Int),.int .i64 k2,.int .u32 (e2:Int)]] w (Ret w (.bool true)):=by
 obtain ⟨p0,c0,rfl⟩:=r0.at
 obtain ⟨p1,c1,rfl⟩:=r1.at
 have m0:=madeS_ok l0 o0
 have m1:=madeS_ok l1 o1
 exact law_interp x.goodF (Nat.le_trans x.sd_len (by omega)) (madeS l0) (madeS l1) x.nx x.ny x.den x.fi l0.length l1.length c0 c1 e0 e1 e2 x.m0 x.m1 x.m2 x.m3 k0 k1 k2 c p0 p1 w (fun W hW=>m_Mesh x hx c W (hS.gr hW))
  (fun hl W hW=>by unfold madeS;rw [if_pos hl];exact pr_Made4 l0 (by omega) o0 p0 c0 W (r0.gr hW)) (fun hl W hW=>by unfold madeS;rw [if_pos hl];exact pr_Made4 l1 (by omega) o1 p1 c1 W (r1.gr hW))
  m0.1 m1.1 m0.2 m1.2 hk.1 he.1 hk.2.1 he.2.1 hk.2.2 he.2.2 (fun W=>lives_Call W)
end Go.Proofs.YtfgmdhjmgdccdaaGreat
