/-
  Part 42 of the proof: RawK Again.
-/
import Derived.Test.YtmelogdhllhjiaaGreatJ30
import Derived.Test.YtmelogdhllhjiaaGreatJ39
import Derived.Test.YtmelogdhllhjiaaGreatJ2
import Derived.ReadAgain
import Derived.ChangeBook
import Derived.ChangeOld
import Derived.Deep.Slices
set_option linter.unusedSimpArgs false
set_option linter.unusedVariables false
namespace Go.Proofs.YtmelogdhllhjiaaGreat
open Go.RowKit Gus
structure TQ where
 i:Int
 j:Int
 n:Int
 d:Nat
abbrev i64ok (n:Int):Prop:= -9223372036854775808≤n∧n≤9223372036854775807
structure TQ.ok (t:TQ):Prop where
 i:i64ok t.i
 j:i64ok t.j
 n:i64ok t.n
 d:t.d<4294967296
abbrev tqC (t:TQ):List Value:= [.int .i64 t.i,.int .i64 t.j,.int .i64 t.n,.int .u32 (t.d:Int)]
def RS {α:Type} (enc:α→List Value) (k:Nat) (w:World) (v:Value) (l:List α):Prop:=
 (∃a cap,v= .slice a 0 cap∧l= [])∨∃g o cap,v= .slice (some ⟨g,o,none⟩) l.length cap∧g<w.heap.size∧∀j (hj:j<l.length) (i:Nat) u,(enc l[j])[i]? =some u→w.cell? ⟨g,o+j*k+i,none⟩=some u
section
variable {α:Type} {enc:α→List Value} {k:Nat} {w w':World} {v:Value} {l:List α}
theorem RS.gr (h:RS enc k w v l) (hg:Gr w.heap.size w w'):RS enc k w' v l:=by
 rcases h with h|⟨g,o,cap,h1,h2,h3⟩
 ·exact .inl h
 ·exact .inr ⟨g,o,cap,h1,Nat.lt_of_lt_of_le h2 hg.size,fun j hj i u hu=>(hg.cell (p:=⟨g,o+j*k+i,none⟩) h2).trans (h3 j hj i u hu)⟩
theorem RS.at (h:RS enc k w v l):∃a cap,v= .slice a l.length cap:=by
 rcases h with⟨a,cap,h,rfl⟩|⟨g,o,cap,h,_⟩
 ·exact⟨_,_,h⟩
 ·exact⟨_,_,h⟩
theorem RS.block (h:RS enc k w v l) (hl:l≠ []):∃g o cap,v= .slice (some ⟨g,o,none⟩) l.length cap∧g<w.heap.size∧∀j (hj:j<l.length) (i:Nat) u,(enc l[j])[i]? =some u→w.cell? ⟨g,o+j*k+i,none⟩=some u:=by
 rcases h with⟨a,cap,_,h⟩|h
 ·exact absurd h hl
 ·exact h
theorem SL.rs {t:TypeId} {B:Nat} (h:SL enc k t w B v l):RS enc k w v l:=by
 rcases h with⟨h,rfl⟩|⟨g,cap,h1,h2,h3,h4,h5,h6⟩
 ·exact .inl ⟨_,_,h,rfl⟩
 ·exact .inr ⟨g,0,cap,h1,h5.lt,fun j hj i u hu=>by rw [Nat.zero_add];exact h6 j hj i u hu⟩
end
def brI (i:Int):Nat:=(IntKind.u64.wrap i).toNat % 9
def brJ (i j:Int):Nat:=(IntKind.u64.wrap j).toNat % (8 - brI i+1)
theorem brI_le (i:Int):brI i≤8:=by have:=Nat.mod_lt (IntKind.u64.wrap i).toNat (show 0<9 by decide);unfold brI;omega
theorem brJ_le (i j:Int):brI i+brJ i j≤8:=by
 have h:=brI_le i
 have:=Nat.mod_lt (IntKind.u64.wrap j).toNat (show 0<8 - brI i+1 by omega)
 unfold brJ;omega
def br (t:TQ):TQ:=⟨(brI t.i:Int),(brJ t.i t.j:Int),t.n,t.d⟩
def brT (t:TQ):T:=⟨brI t.i,brJ t.i t.j,qQ t.n t.d⟩
def madeL (l:List TQ):List T:=gat (l.map brT)
theorem ok_br (l:List TQ):∀t∈l.map brT,t.ok:=by
 intro t ht
 obtain ⟨x,_,rfl⟩:=List.mem_map.1 ht
 have:=brJ_le x.i x.j
 show brI x.i+brJ x.i x.j≤12
 omega
theorem hw_qQ (n:Int) (d:Nat) (h:i64ok n) (hd:d<4294967296):hw (qQ n d)≤4:=by
 unfold qQ
 have h0:(((if d=0 then 1 else d:Nat):Int):Rat).num≠0:=by
  show((if d=0 then 1 else d:Nat):Int)≠0
  split<;>omega
 rw [Rat.div_def]
 have a:=hw_mul (n:Rat) (((if d=0 then 1 else d:Nat):Int):Rat)⁻¹
 have b:=hw_inv _ h0
 have c:=hw_int n h.1 h.2
 have e:=hw_int ((if d=0 then 1 else d:Nat):Int) (by split<;>omega) (by split<;>omega)
 omega
theorem tot_br:∀l:List TQ,(∀t∈l,t.ok)→tot (l.map brT)≤l.length*5
 | [],_=>by simp [tot]
 | t :: r,h=>by
  have h1:=tot_br r (fun x hx=>h x (by simp [hx]))
  have h2:=h t (by simp)
  have h3:=hw_qQ t.n t.d h2.n h2.d
  simp only [List.map_cons,tot,List.length_cons,brT]
  omega
theorem ok_madeL (l:List TQ):∀t∈madeL l,t.ok:=(nf_gat (ok_br l)).ok
theorem tot_madeL {l:List TQ} (h:∀t∈l,t.ok) (hl:l.length≤20):tot (madeL l)≤100:=by
 have h1:=tot_gat (l.map brT)
 have h2:=tot_br l h
 unfold madeL
 omega
end Go.Proofs.YtmelogdhllhjiaaGreat
namespace Go.Proofs.YtmelogdhllhjiaaGreat
open Go.ChangeShapes Go.WideShapes Go.RowKit
theorem laid_ok:laidOutB Tryz.prog=true:=by kernel_rfl
theorem Gr.same {w w':World} (hg:Gr w.heap.size w w') {p:MemPlace} (hp:p.block<w.heap.size):w.sameAt w' p:=by
 cases p with
 | cell b o=>exact hg.cell (p:=⟨b,o,none⟩) hp
 | map b=>exact hg.block b hp
theorem again_at {H:Type} {enc:TypeId×Value→H} {W W':World} (hg:Gr W.heap.size W W') {t:TypeId} (hr:Tryz.prog.readableRec t=true) (ht:t<Tryz.prog.types.size) {v:Value} {d:DataW H} {ps:List MemPlace}
  (h:DataW.Trod enc Tryz.prog W 0 (fun _=>true) true t v d ps):DataW.Trod enc Tryz.prog W' 0 (fun b=>decide (b<W.heap.size)) true t v d ps:=by
 have hlt:∀p∈ps,p.block<W.heap.size:=by
  obtain ⟨n,hn⟩:=h
  exact DataW.trod_lt n _ _ _ hn
 obtain ⟨n,hn⟩:=DataW.Trod.respare (spare':=fun b=>decide (b<W.heap.size)) (kids_book laid_ok hr) (fun _ _=>book_sized hr) ⟨ht,book_self t⟩ h (fun p hp=>by simpa using hlt p hp)
 exact⟨n,DataW.trod_carry n _ _ _ hn (fun p hp=>hg.same (hlt p hp))⟩
end Go.Proofs.YtmelogdhllhjiaaGreat
