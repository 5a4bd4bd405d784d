/-
  Part 45 of the proof: AgainB OpenD FinS.
-/
import Derived.Test.YtjijceliboaeaaaGreatDoorJ1
import Derived.ReadAgain
import Derived.ChangeBook
import Derived.ChangeOld
import Derived.Deep.Slices
import Derived.Test.YtjijceliboaeaaaGreatDoorJ44
import Derived.Deep.Strs
import Derived.ProofKit
import Derived.OpenShut
set_option linter.unusedSimpArgs false
set_option linter.unusedVariables false
namespace Go.Proofs.YtjijceliboaeaaaGreatDoor
open Go.ChangeShapes Go.WideShapes Go.RowKit
theorem laid_ok:laidOutB Tryz.prog=true:=by kernel_rfl
theorem Below.same_ {w w':World} (hg:Below w.heap.size w w') {p:MemPlace} (hp:p.block<w.heap.size):w.sameAt w' p:=by
 cases p with
 | cell b o=>exact hg.cell (p:=⟨b,o,none⟩) hp
 | map b=>exact hg.block b hp
theorem again_B {H:Type} {enc:TypeId×Value→H} {W W':World} (hg:Below W.heap.size W W') {t:TypeId} (hr:Tryz.prog.readableRec t=true) (ht:t<Tryz.prog.types.size) {v:Value} {d:DataW H} {ps:List MemPlace}
  (h:DataW.Trod enc Tryz.prog W 0 (fun _=>true) true t v d ps):DataW.Trod enc Tryz.prog W' 0 (fun b=>decide (b<W.heap.size)) true t v d ps:=by
 have hlt:∀p∈ps,p.block<W.heap.size:=by
  obtain ⟨n,hn⟩:=h
  exact DataW.trod_lt n _ _ _ hn
 obtain ⟨n,hn⟩:=DataW.Trod.respare (spare':=fun b=>decide (b<W.heap.size)) (kids_book laid_ok hr) (fun _ _=>book_sized hr) ⟨ht,book_self t⟩ h (fun p hp=>by simpa using hlt p hp)
 exact⟨n,DataW.trod_carry n _ _ _ hn (fun p hp=>Below.same_ hg (hlt p hp))⟩
end Go.Proofs.YtjijceliboaeaaaGreatDoor
namespace Go.Proofs.YtjijceliboaeaaaGreatDoor
open Go.ChangeShapes Go.WideShapes Go.RowKit Go.Deep
theorem cellsM:Tryz.prog.cellsOf 26=9:=by kernel_rfl
theorem cellsU:Tryz.prog.cellsOf 5=1:=by kernel_rfl
theorem cellsI8:Tryz.prog.cellsOf 23=1:=by kernel_rfl
theorem cellsB:Tryz.prog.cellsOf 22=1:=by kernel_rfl
theorem cells48:Tryz.prog.cellsOf 24=4:=by kernel_rfl
theorem list9 {α:Type} (l:List α) (h:(⟨l⟩:Array α).size=9):∃a b c d e f g i j,l= [a,b,c,d,e,f,g,i,j]:=by
 match l,h with
 | [a,b,c,d,e,f,g,i,j],_=>exact⟨a,b,c,d,e,f,g,i,j,rfl⟩
theorem len4' {α:Type} (l:List α) (h:l.length=4):∃a b c d,l= [a,b,c,d]:=by
 match l,h with
 | [a,b,c,d],_=>exact⟨a,b,c,d,rfl⟩
theorem cell_lt' {w:World} {a:Addr} {v:Value} (h:w.cell? a=some v):a.block<w.heap.size:=by
 rcases Nat.lt_or_ge a.block w.heap.size with h'|h'
 ·exact h'
 ·simp [World.cell?,Array.getElem?_eq_none h']at h
theorem open_U {H:Type} {enc:TypeId×Value→H} {w:World} {base m:Nat} {sp:Nat→Bool} {hd:Bool} {c:Value} {y:DataW H×List MemPlace} (h:DataW.trod enc Tryz.prog w base sp hd m 5 [c]=some y):
  ∃n:Nat,c= .int .u8 (n:Int)∧n<256:=by
 obtain ⟨n,e,rfl,w0⟩:=DataW.trod_int Tryz.underlying5 h
 simp at e
 subst e
 have hb:=bounds_u8 w0
 exact⟨n.toNat,by rw [Int.toNat_of_nonneg hb.1],by omega⟩
theorem open_I8 {H:Type} {enc:TypeId×Value→H} {w:World} {base m:Nat} {sp:Nat→Bool} {hd:Bool} {c:Value} {y:DataW H×List MemPlace} (h:DataW.trod enc Tryz.prog w base sp hd m 23 [c]=some y):
  ∃n:Int,c= .int .i8 n:=by
 obtain ⟨n,e,rfl,w0⟩:=DataW.trod_int Tryz.underlying23 h
 simp at e
 exact⟨n,e⟩
theorem open_Bs {H:Type} {enc:TypeId×Value→H} {w:World} {m:Nat} {sp:Nat→Bool} {hd:Bool} {c:Value} {y:DataW H×List MemPlace} (h:DataW.trod enc Tryz.prog w 0 sp hd m 22 [c]=some y):
  ∃l:List Nat,BS w c l∧∀b∈l,b<256:=by
 rcases open_slice1 Tryz.underlying22 cellsU h with⟨e,_⟩|⟨a,len,cap,m',n,V,D,Pl,e,_,hl,hm,rfl,_,hi⟩
 ·simp at e
  subst e
  exact⟨[],⟨by simp [maxLen],.inl ⟨_,_,rfl,rfl⟩⟩,by simp⟩
 ·simp at e
  subst e
  have key:∀i,i<len→∃b:Nat,b<256∧w.cell? (a.add i)=some (.int .u8 (b:Int)):=by
   intro i hlt
   obtain ⟨h1,h2⟩:=hi i (by split<;>omega)
   obtain ⟨b,hb,hb2⟩:=open_U h2
   exact⟨b,hb2,hb ▸ h1⟩
  obtain ⟨f,hf⟩:= @choose_lt Nat ⟨0⟩ len _ key
  refine⟨(List.range len).map f,⟨by simp;omega,?_⟩,by
   intro t ht
   obtain ⟨i,hi,rfl⟩:=List.mem_map.1 ht
   exact(hf i (List.mem_range.1 hi)).1⟩
  rcases Nat.eq_zero_or_pos len with h0|h0
  ·subst h0
   exact .inl ⟨_,_,rfl,rfl⟩
  ·obtain ⟨b,off,spot⟩:=a
   have hspot:spot=none:=by simpa [Addr.add] using World.cell?_spot (hf 0 h0).2
   subst hspot
   refine .inr ⟨b,off,cap,by simp,cell_lt' (hf 0 h0).2,fun j hj=>?_⟩
   have hj':j<len:=by simpa using hj
   have g0:=(hf j hj').2
   rw [Go.WideShapes.add_plain]at g0
   simpa using g0
theorem trod_struct6 {H:Type} {enc:TypeId×Value→H} {P:Program} {w:World} {base:Nat} {spare:Nat→Bool} {held:Bool} {t:TypeId} {f0 f1 f2 f3 f4 f5:Field} {fuel:Nat} {cs:List Value} {x:DataW H×List MemPlace} (ht:P.underlying t=some (.struct #[f0,f1,f2,f3,f4,f5])) (h:DataW.trod enc P w base spare held fuel t cs=some x):
  ∃y0 y1 y2 y3 y4 y5 n,DataW.trod enc P w base spare held n f0.type ((cs.drop f0.offset).take (P.cellsOf f0.type))=some y0∧
   DataW.trod enc P w base spare held n f1.type ((cs.drop f1.offset).take (P.cellsOf f1.type))=some y1∧DataW.trod enc P w base spare held n f2.type ((cs.drop f2.offset).take (P.cellsOf f2.type))=some y2∧
   DataW.trod enc P w base spare held n f3.type ((cs.drop f3.offset).take (P.cellsOf f3.type))=some y3∧DataW.trod enc P w base spare held n f4.type ((cs.drop f4.offset).take (P.cellsOf f4.type))=some y4∧DataW.trod enc P w base spare held n f5.type ((cs.drop f5.offset).take (P.cellsOf f5.type))=some y5:=by
 obtain ⟨xs,n,_,rfl,hl,hlen,hf⟩:=DataW.trod_struct ht h
 match xs,hlen with
 | [y0,y1,y2,y3,y4,y5],_=>exact⟨y0,y1,y2,y3,y4,y5,n,by simpa using hf 0 f0 rfl,by simpa using hf 1 f1 rfl,by simpa using hf 2 f2 rfl,by simpa using hf 3 f3 rfl,by simpa using hf 4 f4 rfl,by simpa using hf 5 f5 rfl⟩
set_option maxRecDepth 100000 in
theorem open_M {H:Type} {enc:TypeId×Value→H} {w:World} {b0:Nat} {sp:Nat→Bool} {hd:Bool} {v:Value} {d:DataW H} {ps:List MemPlace} (hval:Value.okWide Tryz.prog w .any b0 26 v) (h:DataW.Trod enc Tryz.prog w 0 sp hd 26 v d ps):
  ∃(x:RawM) (c:Value),v= .agg #[.int .u8 (x.nx:Int),.int .u8 (x.ny:Int),c,.int .i8 x.m0,.int .i8 x.m1,.int .i8 x.m2,.int .i8 x.m3,.int .u8 (x.den:Int),.int .u8 (x.fi:Int)]∧x.Ok∧BS w c x.bs:=by
 obtain ⟨cs,rfl,hsz,_⟩:∃cs,v= .agg cs∧cs.size=Tryz.prog.cellsOf 26∧Row.okWide Tryz.prog w .any b0 26 cs:=by
  simpa [Value.okWide,Tryz.underlying26] using hval
 rw [cellsM]at hsz
 obtain ⟨l⟩:=cs
 obtain ⟨c0,c1,c2,c3,c4,c5,c6,c7,c8,rfl⟩:=list9 l hsz
 obtain ⟨fuel,hf⟩:=h
 obtain ⟨y0,y1,y2,y3,y4,y5,n,h0,h1,h2,h3,h4,h5⟩:=trod_struct6 Tryz.underlying26 hf
 rw [cellsU]at h0 h1 h4 h5
 rw [cellsB]at h2
 rw [cells48]at h3
 obtain ⟨nx,rfl,p0⟩:=open_U (by simpa [Value.cells] using h0)
 obtain ⟨ny,rfl,p1⟩:=open_U (by simpa [Value.cells] using h1)
 obtain ⟨bs,p2,q2⟩:=open_Bs (c:=c2) (by simpa [Value.cells] using h2)
 obtain ⟨den,rfl,p4⟩:=open_U (by simpa [Value.cells] using h4)
 obtain ⟨fi,rfl,p5⟩:=open_U (by simpa [Value.cells] using h5)
 obtain ⟨xs,m,rfl,hx,_,hl,hi⟩:=DataW.trod_array Tryz.underlying24 h3
 obtain ⟨x0,x1,x2,x3,rfl⟩:=len4' xs hl
 have i0:=hi 0 (by omega)
 have i1:=hi 1 (by omega)
 have i2:=hi 2 (by omega)
 have i3:=hi 3 (by omega)
 rw [cellsI8]at i0 i1 i2 i3
 obtain ⟨m0,rfl⟩:=open_I8 (y:=x0) (by simpa [Value.cells] using i0)
 obtain ⟨m1,rfl⟩:=open_I8 (y:=x1) (by simpa [Value.cells] using i1)
 obtain ⟨m2,rfl⟩:=open_I8 (y:=x2) (by simpa [Value.cells] using i2)
 obtain ⟨m3,rfl⟩:=open_I8 (y:=x3) (by simpa [Value.cells] using i3)
 exact⟨⟨nx,ny,den,fi,m0,m1,m2,m3,bs⟩,c2,rfl,⟨p0,p1,p4,p5,q2⟩,p2⟩
theorem kept_B {w w':World} (h:Below w.heap.size w w') (may:MemPlace→Prop):w.keptBut w' may:=by
 refine⟨h.os,h.output,fun i hi=>?_⟩
 rw [h.block i hi]
 cases e:w.heap[i]? with
 | none=>rfl
 | some o=>cases o<;>first|rfl|exact⟨rfl,rfl,rfl,fun _ _=>rfl⟩|exact .inr ⟨rfl,rfl⟩
end Go.Proofs.YtjijceliboaeaaaGreatDoor
namespace Go.Proofs.YtjijceliboaeaaaGreatDoor
open Go.RowKit Gus Go.Maps
theorem RawM.goodA (x:RawM):GoodA x.mesh:=x.net.goodA x.det x.smallK x.d_pos.1 x.d_pos.2 x.side
theorem RawM.ptsN (x:RawM):x.mesh.pts.length=x.P.length:=by simp [RawM.mesh,meshOf]
theorem RawM.trisE (x:RawM):x.mesh.tris=x.tris:=rfl
theorem RawM.trisN (x:RawM):x.mesh.tris.length≤36:=by rw [x.trisE];simpa [RawM.tris] using x.net.few
theorem RawM.goodM (x:RawM):∀t∈x.mesh.tris,goodT x.mesh.pts.length t:=by rw [x.ptsN];exact x.good
theorem RawM.fewN (x:RawM):x.mesh.pts.length≤108:=by rw [x.ptsN];exact x.net.fewP
theorem m_Of (x:RawM) (o:Nat) (ho:o=1∨o=2) (W:World) (a b c:Value) (hM:MS W 0 a b c x.mesh):
  Calls Tryz.prog 5 #[.agg #[a,b,c],.int .i64 (o:Int)] W (fun e w'=> ∃x' y z,e= .returned (.tuple #[tabV o (numM o x.mesh) x' y z,.int .i64 0])∧TabM w' W.heap.size o x.mesh x' y z∧Gr W.heap.size W w'):=
 g_Of x.mesh o ho (Nat.le_trans x.fewN (by omega)) (Nat.le_trans x.trisN (by omega)) x.goodM x.goodA.one x.goodA.hp_ (fun W a b c h=>m_Check x a b c W h) a b c W hM
end Go.Proofs.YtjijceliboaeaaaGreatDoor
