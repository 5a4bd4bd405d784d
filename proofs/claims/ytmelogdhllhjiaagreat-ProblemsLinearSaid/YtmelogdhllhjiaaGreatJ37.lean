/-
  Part 37 of the proof: MadeK.
-/
import Derived.Test.YtmelogdhllhjiaaGreatJ24
import Derived.Test.YtmelogdhllhjiaaGreatJ26
import Derived.Test.YtmelogdhllhjiaaGreatJ20
import Derived.Deep.Upon
import Derived.WalkMore
import Derived.Shelf.Abstract
set_option linter.unusedSimpArgs false
set_option linter.unusedVariables false
namespace Go.Proofs.YtmelogdhllhjiaaGreat
open Go.RowKit Gus Go.Maps
theorem info_bGiven:(Tryz.prog.info? 71).map (fun i=>(i.zero,i.size,i.bytes))=some (some (.agg #[.int .i64 0,.bool false,.slice none 0 0,.slice none 0 0,.slice none 0 0]),5,88):=by kernel_rfl
theorem Kp.sets (w:World) (b o:Nat) (vs:List Value):Kp w (w.setCells b o vs) (some b):=by
 have hg:=Gr.sets (B:=b) (Nat.le_refl _) vs o (Gr.refl b w)
 refine⟨⟨hg.os,hg.tape,hg.output,hg.size,fun k _ hk=>?_⟩,hg.drawn⟩
 exact World.heap_setCells_other w b o vs (by assumption) (fun e=>hk (by rw [e]))
theorem Kp.trans {w w1 w2:World} {row:Option Nat} (h:Kp w w1 row) (h2:Kp w1 w2 row):Kp w w2 row:=
 ⟨⟨h2.g.os.trans h.g.os,h2.g.tape.trans h.g.tape,h2.g.output.trans h.g.output,Nat.le_trans h.g.size h2.g.size,fun k hk hr=>(h2.g.block k (Nat.lt_of_lt_of_le hk h.g.size) hr).trans (h.g.block k hk hr)⟩,Nat.le_trans h.d h2.d⟩
theorem Gr.kp {w w':World} (h:Gr w.heap.size w w') (row:Option Nat):Kp w w' row:=⟨⟨h.os,h.tape,h.output,h.size,fun k hk _=>h.block k hk⟩,h.drawn⟩
theorem SR.own_lt {α:Type} {enc:α→List Value} {k:Nat} {t:TypeId} {w:World} {B:Nat} {v:Value} {l:List α} (h:SR enc k t w B v l) {g:Nat} (hg:v.ownBlock=some g):B≤g∧g<w.heap.size:=by
 rcases h with⟨rfl,_⟩|⟨g',cap,rfl,h2,h3,h4,h5,h6⟩
 ·simp [Value.ownBlock]at hg
 ·simp [Value.ownBlock]at hg
  subst hg
  exact⟨h2,h5.lt⟩
theorem SR.kp {α:Type} {enc:α→List Value} {k:Nat} {t:TypeId} {w w':World} {B:Nat} {v:Value} {l:List α} {row:Option Nat} (h:SR enc k t w B v l) (hk:Kp w w' row) (hne:∀g,v.ownBlock=some g→some g≠row):SR enc k t w' B v l:=by
 rcases h with h|⟨g,cap,rfl,h2,h3,h4,⟨N,h5⟩,h6⟩
 ·exact .inl h
 ·have:=hne g rfl
  exact .inr ⟨g,cap,rfl,h2,h3,h4,⟨N,hk.sh h5 this⟩,hk.rc h6 h5.lt this⟩
theorem MS.kp {w w':World} {B b:Nat} {x y z:Value} {m:Msh} (h:MS w B x y z m) (hk:Kp w w' (some b)) (h1:∀g,x.ownBlock=some g→g≠b) (h2:∀g,y.ownBlock=some g→g≠b) (h3:∀g,z.ownBlock=some g→g≠b):MS w' 0 x y z m:=
 ⟨(SR.kp h.1 hk fun g e e2=>h1 g e (by cases e2;rfl)).mono (Nat.zero_le _),(SR.kp h.2.1 hk fun g e e2=>h2 g e (by cases e2;rfl)).mono (Nat.zero_le _),(SR.kp h.2.2 hk fun g e e2=>h3 g e (by cases e2;rfl)).mono (Nat.zero_le _)⟩
theorem own_ms {w:World} {B:Nat} {x y z:Value} {m:Msh} (h:MS w B x y z m):(∀g,x.ownBlock=some g→B≤g∧g<w.heap.size)∧(∀g,y.ownBlock=some g→B≤g∧g<w.heap.size)∧(∀g,z.ownBlock=some g→B≤g∧g<w.heap.size):=
 ⟨fun _ e=>h.1.own_lt e,fun _ e=>h.2.1.own_lt e,fun _ e=>h.2.2.own_lt e⟩
theorem own_sl {α:Type} {enc:α→List Value} {k:Nat} {t:TypeId} {w:World} {B:Nat} {v:Value} {l:List α} (h:SL enc k t w B v l):∀g,v.ownBlock=some g→B≤g∧g<w.heap.size:=fun _ e=>h.sr.own_lt e
theorem SL.one {α β:Type} {enc1:α→List Value} {enc2:β→List Value} {k:Nat} {t:TypeId} {w:World} {B:Nat} {v:Value} {x:α} {y:β} (h:SL enc1 k t w B v [x]) (e:enc2 y=enc1 x):SL enc2 k t w B v [y]:=by
 rcases h with⟨_,h⟩|⟨g,cap,h1,h2,h3,h4,h5,h6⟩
 ·cases h
 ·refine .inr ⟨g,cap,h1,h2,h3,h4,h5,fun j hj i u hu=>?_⟩
  obtain rfl:j=0:=by simpa using hj
  exact h6 0 (by simp) i u (by simpa [e] using hu)
abbrev G5:= {l:List Value // l.length=5∧∀v∈l,v.oneCell'=true}
abbrev g5C (x:G5):List Value:=x.1
theorem g5C_len (x:G5):(g5C x).length=5:=x.2.1
theorem g5C_one (x:G5):∀v∈g5C x,v.oneCell'=true:=x.2.2
theorem Kp.weak {w w':World} {row:Option Nat} (h:Kp w w' none):Kp w w' row:=⟨⟨h.g.os,h.g.tape,h.g.output,h.g.size,fun k hk _=>h.g.block k hk (by simp)⟩,h.d⟩
theorem wpList_stowK {P:Program} {ops:Array Oper} {rest:List Oper} {op:Oper} {a:Act} {w:World} {Q:Exit→Act→World→Prop} (hgd:op.guard=none) (ty:TypeId) (x y:Operand) (ho:op.op= .store ty x y) (b:Nat) (cs old:List Value)
  (hx:a.eval x= .pointer (some ⟨b,0,none⟩)) (hy:a.eval y= .agg cs.toArray) (hv:VB w b old) (hl:cs.length=old.length) (hi:(P.info? ty).map (·.size)=some cs.length) (h1:∀v∈cs,v.oneCell'=true)
  (h:∀w',VB w' b cs→Kp w w' (some b)→wpList P ops Q rest (a.put op.dst undef) w'):wpList P ops Q (op :: rest) a w:=
 wpList_store_mid hgd ty x y ho b 0 cs.toArray hx hy (by have:=hv.there;rw [←hl]at this;simpa using this) (by simpa using hi) (all_oneCell_toArray h1) (h _ (by simpa using hv.set cs hl) (by simpa using Kp.sets w b 0 cs))
structure MadS (w wx:World) (tb:Nat) (ca cb cc vF vp vt vs:Value) (a b c q:Rat) (lF:List T):Prop where
 v:VB wx tb (prC ⟨ca,cb,cc,1,a,b,c,q,vF,.slice none 0 0⟩)
 m:MS wx 0 ca cb cc ⟨sqP,sqT,rmS⟩
 f:PL wx (w.heap.size+1+1+1+1) vF lF
 n1:∀g,ca.ownBlock=some g→g≠tb
 n2:∀g,cb.ownBlock=some g→g≠tb
 n3:∀g,cc.ownBlock=some g→g≠tb
 n4:∀g,vF.ownBlock=some g→g≠tb
 gr:Gr w.heap.size w wx
 b0:VB wx w.heap.size [vp,vt,vs]
 b1:VB wx (w.heap.size+1) [.int .u64 (lowN (sz a.num)),.string (bigS (sz a.num)),.bool (ng a.num),.int .u64 (lowN (fm a)),.string (bigS (fm a)),.int .u64 (lowN (sz b.num)),.string (bigS (sz b.num)),.bool (ng b.num),.int .u64 (lowN (fm b)),.string (bigS (fm b)),.int .u64 (lowN (sz c.num)),.string (bigS (sz c.num)),.bool (ng c.num),.int .u64 (lowN (fm c)),.string (bigS (fm c))]
 b3:VB wx (w.heap.size+1+1+1) [.slice none 0 0,.slice none 0 0,.slice none 0 0,.int .i64 0,.int .u64 0,.string ⟨#[]⟩,.bool false,.int .u64 0,.string ⟨#[]⟩,.int .u64 0,.string ⟨#[]⟩,.bool false,.int .u64 0,.string ⟨#[]⟩,.int .u64 0,.string ⟨#[]⟩,.bool false,.int .u64 0,.string ⟨#[]⟩,.int .u64 0,.string ⟨#[]⟩,.bool false,.int .u64 0,.string ⟨#[]⟩,.slice none 0 0,.slice none 0 0]
end Go.Proofs.YtmelogdhllhjiaaGreat
