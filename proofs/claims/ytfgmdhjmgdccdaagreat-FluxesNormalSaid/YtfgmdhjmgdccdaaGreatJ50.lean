/-
  Part 50 of the proof: OpenF FinF.
-/
import Derived.Test.YtfgmdhjmgdccdaaGreatJ47
import Derived.Test.YtfgmdhjmgdccdaaGreatJ49
import Derived.Test.YtfgmdhjmgdccdaaGreatJ38
import Derived.Deep.Strs
import Derived.ProofKit
import Derived.OpenShut
set_option linter.unusedSimpArgs false
set_option linter.unusedVariables false
namespace Go.Proofs.YtfgmdhjmgdccdaaGreat
open Go.ChangeShapes Go.WideShapes Go.RowKit Go.Deep
theorem cellsM:Tryz.prog.cellsOf 26=9:=by kernel_rfl
theorem cellsU:Tryz.prog.cellsOf 5=1:=by kernel_rfl
theorem cellsI8:Tryz.prog.cellsOf 23=1:=by kernel_rfl
theorem cellsB:Tryz.prog.cellsOf 22=1:=by kernel_rfl
theorem cells48:Tryz.prog.cellsOf 24=4:=by kernel_rfl
theorem len4' {α:Type} (l:List α) (h:l.length=4):∃a b c d,l= [a,b,c,d]:=by
 match l,h with
 | [a,b,c,d],_=>exact⟨a,b,c,d,rfl⟩
theorem cell_lt' {w:World} {a:Addr} {v:Value} (h:w.cell? a=some v):a.block<w.heap.size:=by
 rcases Nat.lt_or_ge a.block w.heap.size with h'|h'
 ·exact h'
 ·simp [World.cell?,Array.getElem?_eq_none h']at h
theorem open_U {H:Type} {enc:TypeId×Value→H} {w:World} {base m:Nat} {sp:Nat→Bool} {hd:Bool} {c:Value} {y:DataW H×List MemPlace} (h:DataW.trod enc Tryz.prog w base sp hd m 5 [c]=some y):
  ∃n:Nat,c= .int .u8 (n:Int)∧n<256:=by
 obtain ⟨n,e,rfl,w0⟩:=DataW.trod_int Tryz.underlying5 h
 simp at e
 subst e
 have hb:=bounds_u8 w0
 exact⟨n.toNat,by rw [Int.toNat_of_nonneg hb.1],by omega⟩
theorem open_I8 {H:Type} {enc:TypeId×Value→H} {w:World} {base m:Nat} {sp:Nat→Bool} {hd:Bool} {c:Value} {y:DataW H×List MemPlace} (h:DataW.trod enc Tryz.prog w base sp hd m 23 [c]=some y):
  ∃n:Int,c= .int .i8 n:=by
 obtain ⟨n,e,rfl,w0⟩:=DataW.trod_int Tryz.underlying23 h
 simp at e
 exact⟨n,e⟩
theorem open_Bs {H:Type} {enc:TypeId×Value→H} {w:World} {m:Nat} {sp:Nat→Bool} {hd:Bool} {c:Value} {y:DataW H×List MemPlace} (h:DataW.trod enc Tryz.prog w 0 sp hd m 22 [c]=some y):
  ∃l:List Nat,BS w c l∧∀b∈l,b<256:=by
 rcases open_slice1 Tryz.underlying22 cellsU h with⟨e,_⟩|⟨a,len,cap,m',n,V,D,Pl,e,_,hl,hm,rfl,_,hi⟩
 ·simp at e
  subst e
  exact⟨[],⟨by simp [maxLen],.inl ⟨_,_,rfl,rfl⟩⟩,by simp⟩
 ·simp at e
  subst e
  have key:∀i,i<len→∃b:Nat,b<256∧w.cell? (a.add i)=some (.int .u8 (b:Int)):=by
   intro i hlt
   obtain ⟨h1,h2⟩:=hi i (by split<;>omega)
   obtain ⟨b,hb,hb2⟩:=open_U h2
   exact⟨b,hb2,hb ▸ h1⟩
  obtain ⟨f,hf⟩:= @choose_lt Nat ⟨0⟩ len _ key
  refine⟨(List.range len).map f,⟨by simp;omega,?_⟩,by
   intro t ht
   obtain ⟨i,hi,rfl⟩:=List.mem_map.1 ht
   exact(hf i (List.mem_range.1 hi)).1⟩
  rcases Nat.eq_zero_or_pos len with h0|h0
  ·subst h0
   exact .inl ⟨_,_,rfl,rfl⟩
  ·obtain ⟨b,off,spot⟩:=a
   have hspot:spot=none:=by simpa [Addr.add] using World.cell?_spot (hf 0 h0).2
   subst hspot
   refine .inr ⟨b,off,cap,by simp,cell_lt' (hf 0 h0).2,fun j hj=>?_⟩
   have hj':j<len:=by simpa using hj
   have g0:=(hf j hj').2
   rw [Go.WideShapes.add_plain]at g0
   simpa using g0
theorem trod_struct6 {H:Type} {enc:TypeId×Value→H} {P:Program} {w:World} {base:Nat} {spare:Nat→Bool} {held:Bool} {t:TypeId} {f0 f1 f2 f3 f4 f5:Field} {fuel:Nat} {cs:List Value} {x:DataW H×List MemPlace} (ht:P.underlying t=some (.struct #[f0,f1,f2,f3,f4,f5])) (h:DataW.trod enc P w base spare held fuel t cs=some x):
  ∃y0 y1 y2 y3 y4 y5 n,DataW.trod enc P w base spare held n f0.type ((cs.drop f0.offset).take (P.cellsOf f0.type))=some y0∧
   DataW.trod enc P w base spare held n f1.type ((cs.drop f1.offset).take (P.cellsOf f1.type))=some y1∧DataW.trod enc P w base spare held n f2.type ((cs.drop f2.offset).take (P.cellsOf f2.type))=some y2∧
   DataW.trod enc P w base spare held n f3.type ((cs.drop f3.offset).take (P.cellsOf f3.type))=some y3∧DataW.trod enc P w base spare held n f4.type ((cs.drop f4.offset).take (P.cellsOf f4.type))=some y4∧DataW.trod enc P w base spare held n f5.type ((cs.drop f5.offset).take (P.cellsOf f5.type))=some y5:=by
 obtain ⟨xs,n,_,rfl,hl,hlen,hf⟩:=DataW.trod_struct ht h
 match xs,hlen with
 | [y0,y1,y2,y3,y4,y5],_=>exact⟨y0,y1,y2,y3,y4,y5,n,by simpa using hf 0 f0 rfl,by simpa using hf 1 f1 rfl,by simpa using hf 2 f2 rfl,by simpa using hf 3 f3 rfl,by simpa using hf 4 f4 rfl,by simpa using hf 5 f5 rfl⟩
theorem cellsQ:Tryz.prog.cellsOf 80=2:=by kernel_rfl
theorem cellsN:Tryz.prog.cellsOf 2=1:=by kernel_rfl
theorem cellsD:Tryz.prog.cellsOf 78=1:=by kernel_rfl
set_option maxRecDepth 100000 in
theorem open_Q {H:Type} {enc:TypeId×Value→H} {w:World} {base m:Nat} {sp:Nat→Bool} {hd:Bool} {c d:Value} {y:DataW H×List MemPlace} (h:DataW.trod enc Tryz.prog w base sp hd m 80 [c,d]=some y):
  ∃(n:Int) (b:Nat),c= .int .i64 n∧d= .int .u32 (b:Int)∧i64ok n∧b<4294967296:=by
 obtain ⟨y0,y1,k,rfl,_,h0,h1⟩:=trod_struct2 Tryz.underlying80 h
 obtain ⟨n,e0,rfl,w0⟩:=DataW.trod_int Tryz.underlying2 h0
 obtain ⟨b,e1,rfl,w1⟩:=DataW.trod_int Tryz.underlying78 h1
 rw [cellsN]at e0
 rw [cellsD]at e1
 simp at e0 e1
 subst e0 e1
 have hb:=bounds_u32 w1
 obtain ⟨b',rfl⟩:∃b':Nat,b=(b':Int):=⟨b.toNat,by omega⟩
 exact⟨n,b',rfl,rfl,bounds_i64 w0,by omega⟩
theorem cellsFQ:Tryz.prog.cellsOf 27=1:=by kernel_rfl
theorem cellsFl:Tryz.prog.cellsOf 29=10:=by kernel_rfl
theorem list10 {α:Type} (l:List α) (h:(⟨l⟩:Array α).size=10):∃a b c d e f g i j k,l= [a,b,c,d,e,f,g,i,j,k]:=by
 match l,h with
 | [a,b,c,d,e,f,g,i,j,k],_=>exact⟨a,b,c,d,e,f,g,i,j,k,rfl⟩
theorem cells2 {w:World} {b:Nat} {a:Addr} {cs:List Value} (h:w.cells? b a 2=some cs):∃c0 c1,cs= [c0,c1]∧w.cell? (a.add 0)=some c0∧w.cell? (a.add 1)=some c1:=by
 unfold World.cells? at h
 split at h
 ·rw [show List.range 2= [0,1]from rfl]at h
  simp only [List.mapM_cons,List.mapM_nil,bind,Option.bind_eq_some_iff,pure,Option.some.injEq]at h
  obtain ⟨c0,h0,x,⟨c1,h1,u,rfl,rfl⟩,rfl⟩:=h
  exact⟨_,_,rfl,h0,h1⟩
 ·cases h
set_option maxRecDepth 100000 in
theorem open_Qs {H:Type} {enc:TypeId×Value→H} {w:World} {m:Nat} {sp:Nat→Bool} {hd:Bool} {c:Value} {y:DataW H×List MemPlace} (h:DataW.trod enc Tryz.prog w 0 sp hd m 27 [c]=some y):
  ∃l:List (Int×Nat),RS q2C 2 w c l∧∀p∈l,i64ok p.1∧p.2<4294967296:=by
 rcases open_slice Tryz.underlying27 h with⟨e,_⟩|⟨a,len,cap,m',n,D,Pl,e,_,hl,hm,rfl,_,hi⟩
 ·simp at e
  subst e
  exact⟨[],.inl ⟨_,_,rfl,rfl⟩,by simp⟩
 ·simp at e
  subst e
  rw [cellsQ]at hi
  have key:∀i,i<len→∃t:Int×Nat,(i64ok t.1∧t.2<4294967296)∧w.cell? (a.add (i*2))=some (.int .i64 t.1)∧w.cell? (a.add (i*2+1))=some (.int .u32 (t.2:Int)):=by
   intro i hlt
   obtain ⟨cs,h1,h2⟩:=hi i (by split<;>omega)
   obtain ⟨c0,c1,rfl,g0,g1⟩:=cells2 h1
   obtain ⟨n,b,rfl,rfl,p,q⟩:=open_Q h2
   rw [add_add]at g0 g1
   exact⟨(n,b),⟨p,q⟩,g0,g1⟩
  obtain ⟨f,hf⟩:= @choose_lt (Int×Nat) ⟨(0,0)⟩ len _ key
  refine⟨(List.range len).map f,?_,by
   intro t ht
   obtain ⟨i,hi,rfl⟩:=List.mem_map.1 ht
   exact(hf i (List.mem_range.1 hi)).1⟩
  rcases Nat.eq_zero_or_pos len with h0|h0
  ·subst h0
   exact .inl ⟨_,_,rfl,rfl⟩
  ·obtain ⟨b,off,spot⟩:=a
   have hspot:spot=none:=by simpa [Addr.add] using World.cell?_spot (hf 0 h0).2.1
   subst hspot
   refine .inr ⟨b,off,cap,by simp,?_,?_⟩
   ·have h1:=(hf 0 h0).2.1
    exact cell_lt' h1
   ·intro j hj i u hu
    have hj':j<len:=by simpa using hj
    obtain ⟨_,g0,g1⟩:=hf j hj'
    simp only [List.getElem_map,List.getElem_range]at hu
    rw [Go.WideShapes.add_plain]at g0 g1
    rw [Nat.add_assoc]
    match i,hu with
    | 0,hu=>simp at hu;subst hu;exact g0
    | 1,hu=>simp at hu;subst hu;exact g1
    | n+2,hu=>simp at hu
set_option maxRecDepth 100000 in
theorem open_Mc {H:Type} {enc:TypeId×Value→H} {w:World} {fuel:Nat} {sp:Nat→Bool} {hd:Bool} {c0 c1 c2 c3 c4 c5 c6 c7 c8:Value} {y:DataW H×List MemPlace} (hf:DataW.trod enc Tryz.prog w 0 sp hd fuel 26 [c0,c1,c2,c3,c4,c5,c6,c7,c8]=some y):
  ∃(x:RawM),[c0,c1,c2,c3,c4,c5,c6,c7,c8]= [.int .u8 (x.nx:Int),.int .u8 (x.ny:Int),c2,.int .i8 x.m0,.int .i8 x.m1,.int .i8 x.m2,.int .i8 x.m3,.int .u8 (x.den:Int),.int .u8 (x.fi:Int)]∧x.Ok∧BS w c2 x.bs:=by
 obtain ⟨y0,y1,y2,y3,y4,y5,n,h0,h1,h2,h3,h4,h5⟩:=trod_struct6 Tryz.underlying26 hf
 rw [cellsU]at h0 h1 h4 h5
 rw [cellsB]at h2
 rw [cells48]at h3
 obtain ⟨nx,rfl,p0⟩:=open_U (by simpa [Value.cells] using h0)
 obtain ⟨ny,rfl,p1⟩:=open_U (by simpa [Value.cells] using h1)
 obtain ⟨bs,p2,q2⟩:=open_Bs (c:=c2) (by simpa [Value.cells] using h2)
 obtain ⟨den,rfl,p4⟩:=open_U (by simpa [Value.cells] using h4)
 obtain ⟨fi,rfl,p5⟩:=open_U (by simpa [Value.cells] using h5)
 obtain ⟨xs,m,rfl,hx,_,hl,hi⟩:=DataW.trod_array Tryz.underlying24 h3
 obtain ⟨x0,x1,x2,x3,rfl⟩:=len4' xs hl
 have i0:=hi 0 (by omega)
 have i1:=hi 1 (by omega)
 have i2:=hi 2 (by omega)
 have i3:=hi 3 (by omega)
 rw [cellsI8]at i0 i1 i2 i3
 obtain ⟨m0,rfl⟩:=open_I8 (y:=x0) (by simpa [Value.cells] using i0)
 obtain ⟨m1,rfl⟩:=open_I8 (y:=x1) (by simpa [Value.cells] using i1)
 obtain ⟨m2,rfl⟩:=open_I8 (y:=x2) (by simpa [Value.cells] using i2)
 obtain ⟨m3,rfl⟩:=open_I8 (y:=x3) (by simpa [Value.cells] using i3)
 exact⟨⟨nx,ny,den,fi,m0,m1,m2,m3,bs⟩,rfl,⟨p0,p1,p4,p5,q2⟩,p2⟩
set_option maxRecDepth 100000 in
theorem open_Fl {H:Type} {enc:TypeId×Value→H} {w:World} {b0:Nat} {sp:Nat→Bool} {hd:Bool} {v:Value} {d:DataW H} {ps:List MemPlace} (hval:Value.okWide Tryz.prog w .any b0 29 v) (h:DataW.Trod enc Tryz.prog w 0 sp hd 29 v d ps):
  ∃(x:RawM) (c q:Value) (qs:List (Int×Nat)),v= .agg #[.int .u8 (x.nx:Int),.int .u8 (x.ny:Int),c,.int .i8 x.m0,.int .i8 x.m1,.int .i8 x.m2,.int .i8 x.m3,.int .u8 (x.den:Int),.int .u8 (x.fi:Int),q]∧x.Ok∧BS w c x.bs∧RS q2C 2 w q qs∧∀p∈qs,i64ok p.1∧p.2<4294967296:=by
 obtain ⟨cs,rfl,hsz,_⟩:∃cs,v= .agg cs∧cs.size=Tryz.prog.cellsOf 29∧Row.okWide Tryz.prog w .any b0 29 cs:=by
  simpa [Value.okWide,Tryz.underlying29] using hval
 rw [cellsFl]at hsz
 obtain ⟨l⟩:=cs
 obtain ⟨c0,c1,c2,c3,c4,c5,c6,c7,c8,c9,rfl⟩:=list10 l hsz
 obtain ⟨fuel,hf⟩:=h
 obtain ⟨y0,y1,k,_,_,h0,h1⟩:=trod_struct2 Tryz.underlying29 hf
 rw [cellsM]at h0
 rw [cellsFQ]at h1
 obtain ⟨x,e,hx,hS⟩:=open_Mc (c0:=c0) (c1:=c1) (c2:=c2) (c3:=c3) (c4:=c4) (c5:=c5) (c6:=c6) (c7:=c7) (c8:=c8) (by simpa [Value.cells] using h0)
 obtain ⟨qs,hq,hok⟩:=open_Qs (c:=c9) (by simpa [Value.cells] using h1)
 simp only [List.cons.injEq,and_true]at e
 obtain ⟨rfl,rfl,-,rfl,rfl,rfl,rfl,rfl,rfl⟩:=e
 exact⟨x,c2,c9,qs,rfl,hx,hS,hq,hok⟩
theorem kept_B {w w':World} (h:Below w.heap.size w w') (may:MemPlace→Prop):w.keptBut w' may:=by
 refine⟨h.os,h.output,fun i hi=>?_⟩
 rw [h.block i hi]
 cases e:w.heap[i]? with
 | none=>rfl
 | some o=>cases o<;>first|rfl|exact⟨rfl,rfl,rfl,fun _ _=>rfl⟩|exact .inr ⟨rfl,rfl⟩
end Go.Proofs.YtfgmdhjmgdccdaaGreat
namespace Go.Proofs.YtfgmdhjmgdccdaaGreat
open Go.RowKit Gus Go.Maps
theorem normal_true (x:RawM) (hx:x.Ok) (c q:Value) (qs:List (Int×Nat)) (hok:∀p∈qs,i64ok p.1∧p.2<4294967296) (w:World) (hS:BS w c x.bs) (hq:RS q2C 2 w q qs):
  Calls Tryz.prog 3 #[.agg #[.int .u8 (x.nx:Int),.int .u8 (x.ny:Int),c,.int .i8 x.m0,.int .i8 x.m1,.int .i8 x.m2,.int .i8 x.m3,.int .u8 (x.den:Int),.int .u8 (x.fi:Int),q]] w (Ret w (.bool true)):=by
 obtain ⟨aq,cq,rfl⟩:=hq.at
 have g:=x.goodF
 have hV:∀r∈(List.range (esM x.mesh.tris).length).map (fv qs),hw r≤20:=by
  intro r hr
  obtain ⟨i,hi,rfl⟩:=List.mem_map.1 hr
  unfold fv
  split
  ·have:=hw_0;omega
  ·rename_i hne
   have hl:i % qs.length<qs.length:=Nat.mod_lt _ (List.length_pos_iff.2 hne)
   have e:qs.getD (i % qs.length) (0,0)=qs[i % qs.length]:=by rw [List.getD_eq_getElem?_getD,List.getElem?_eq_getElem hl];rfl
   rw [e]
   have h:=hok _ (List.getElem_mem hl)
   have:=hw_qQ _ _ h.1 h.2
   omega
 exact law_normal g ((List.range (esM x.mesh.tris).length).map (fv qs)) (by simp) hV x.nx x.ny x.den x.fi qs.length cq x.m0 x.m1 x.m2 x.m3 c aq w
  (fun hn W hW=>flows_Of x.mesh (esM x.mesh.tris) qs x.nx x.ny x.den x.fi x.m0 x.m1 x.m2 x.m3 c aq qs.length cq W rfl (hq.gr hW) (by omega) hok g.few (fun W2 hW2=>m_Mesh x hx c W2 ((hS.gr hW).gr hW2)) (fun W2 a b c h=>gf_Edges g W2 a b c h)) (fun W=>lives_Call W)
end Go.Proofs.YtfgmdhjmgdccdaaGreat
