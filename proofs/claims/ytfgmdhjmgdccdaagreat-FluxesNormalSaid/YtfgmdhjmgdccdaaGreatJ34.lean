/-
  Part 34 of the proof: WholeG WholeH.
-/
import Derived.Test.YtfgmdhjmgdccdaaGreatJ33
import Derived.ChangeKeysEq
set_option linter.unusedSimpArgs false
set_option linter.unusedVariables false
namespace Go.Proofs.YtfgmdhjmgdccdaaGreat
open Go.RowKit Gus Go.Maps
abbrev p2I (p:P2):List Value:= [.int .i64 (p.1:Int),.int .i64 (p.2:Int)]
theorem p2I_len (p:P2):(p2I p).length=2:=rfl
theorem p2I_one (p:P2):∀v∈p2I p,v.oneCell'=true:=by simp [Value.oneCell']
theorem i2C_len (p:Int×Int):(i2C p).length=2:=rfl
theorem i2C_one (p:Int×Int):∀v∈i2C p,v.oneCell'=true:=by simp [Value.oneCell']
theorem info_bP2:(Tryz.prog.info? 154).map (fun i=>(i.zero,i.size,i.bytes))=some (some (.agg #[.int .i64 0,.int .i64 0]),2,16):=by kernel_rfl
theorem info_bI2:(Tryz.prog.info? 118).map (fun i=>(i.zero,i.size,i.bytes))=some (some (.agg #[.int .i64 0,.int .i64 0]),2,16):=by kernel_rfl
def cor3 (t:T2):Nat→P2
 | 0=>t.1
 | 1=>t.2.1
 | _=>t.2.2
theorem corners_at:∀(L:List T2) {t:Nat} (ht:t<L.length) {i:Nat} (_:i<3),(cornersOf L)[3*t+i]? =some (cor3 L[t] i)
 | [],_,ht,_,_=>absurd ht (by simp)
 | T :: L,0,_,i,hi=>by
  rcases(show i=0∨i=1∨i=2 by omega)with rfl|rfl|rfl<;>simp [cornersOf,cor3]
 | T :: L,t+1,ht,i,hi=>by
  have ih:=corners_at L (t:=t) (by simpa using ht) hi
  have e:cornersOf (T :: L)=T.1 :: T.2.1 :: T.2.2 :: cornersOf L:=by simp [cornersOf]
  rw [e,show 3*(t+1)+i=3*t+i+1+1+1 by omega]
  simp only [List.getElem?_cons_succ]
  rw [ih]
  simp
theorem corners_len (L:List T2):(cornersOf L).length=3*L.length:=by
 induction L with
 | nil=>rfl
 | cons T L ih=>
  have e:cornersOf (T :: L)=T.1 :: T.2.1 :: T.2.2 :: cornersOf L:=by simp [cornersOf]
  rw [e];simp only [List.length_cons,ih];omega
theorem place_idx {cs:List P2} {n:Nat} {p:P2} (h:cs[n]? =some p):(placesOf cs).idxOf p=(placesOf (cs.take n)).idxOf p:=by
 have h1:=places_succ h
 have h2:=idxOf_addp (placesOf (cs.take n)) p
 rw [←h1]at h2
 rw [←h2]
 refine idxOf_pre (places_take cs (n+1)) ?_
 rw [h1,addp_mem]
 exact .inr rfl
theorem fold_len_le (cs pl:List P2):(cs.foldl addp pl).length≤pl.length+cs.length:=by
 induction cs generalizing pl with
 | nil=>simp
 | cons c cs ih=>
  rw [List.foldl_cons]
  have h1:=ih (addp pl c)
  have h2:(addp pl c).length≤pl.length+1:=by unfold addp;split<;>simp
  simp only [List.length_cons]
  omega
theorem places_len (cs:List P2):(placesOf cs).length≤cs.length:=by have:=fold_len_le cs [];simpa [placesOf] using this
def fnd (pl:List P2) (p:P2) (k:Nat):Int:=if p∈pl.take k then(pl.idxOf p:Int)else -1
theorem fnd_zero (pl:List P2) (p:P2):fnd pl p 0= -1:=by simp [fnd]
theorem fnd_hit {pl:List P2} (hn:pl.Nodup) {p:P2} {k:Nat} (h:pl[k]? =some p):fnd pl p (k+1)=k:=by
 unfold fnd
 rw [if_pos (by rw [List.take_add_one,h];simp),idx_of hn h]
theorem fnd_miss {pl:List P2} {p q:P2} {k:Nat} (h:pl[k]? =some q) (hne:q≠p):fnd pl p (k+1)=fnd pl p k:=by
 unfold fnd
 rw [List.take_add_one,h]
 simp [Ne.symm hne]
theorem fnd_all (pl:List P2) (p:P2):fnd pl p pl.length=if p∈pl then(pl.idxOf p:Int)else -1:=by unfold fnd;rw [List.take_length]
set_option maxRecDepth 20000 in
set_option maxHeartbeats 4000000 in
theorem eql_P2 (x y:P2) (W:World):(binOp .eql 154 (.agg #[.int .i64 (x.1:Int),.int .i64 (x.2:Int)]) (.agg #[.int .i64 (y.1:Int),.int .i64 (y.2:Int)])).run Tryz.prog W= .ok (.bool (decide (x=y))) W:=by
 obtain ⟨i,hi⟩:∃i,Tryz.prog.info? 3=some i:=Option.isSome_iff_exists.1 (by kernel_rfl)
 have hc:Tryz.prog.cellsOf 3=1:=by kernel_rfl
 have h:=run_equalIn_array (P:=Tryz.prog) W 9999 (t:=154) (e:=3) (n:=2) #[.int .i64 (x.1:Int),.int .i64 (x.2:Int)] #[.int .i64 (y.1:Int),.int .i64 (y.2:Int)] Tryz.underlying154 hi
 rw [hc]at h
 rw [run_eql_struct,h]
 simp only [show List.range 2= [0,1]from rfl,Op.eqItems]
 go_simp
 obtain ⟨a,b⟩:=x
 obtain ⟨c,d⟩:=y
 by_cases h1:a=c
 ·subst h1
  by_cases h2:b=d
  ·subst h2;simp
  ·have h3:¬(b:Int)=(d:Int):=by omega
   simp [h2,h3]
 ·have h3:¬(a:Int)=(c:Int):=by omega
  simp [h1,h3]
end Go.Proofs.YtfgmdhjmgdccdaaGreat
namespace Go.Proofs.YtfgmdhjmgdccdaaGreat
open Go.RowKit Gus Go.Maps
section
variable {P:Program} (w:World) {o:Oper} {a:Act} {K:Act→World→Prop} {Q:Exit→Act→World→Prop}
theorem wp_appS {α:Type} {enc:α→List Value} {k:Nat} {t:TypeId} (s x:Operand) (ts:TypeId) (hop:o.op= .call {callee:= .builtin .append,args:= #[s,x],argTypes:= #[ts,ts]})
  (B:Nat) (i:TypeInfo) (z:Value) (bytes:Nat) (ht:P.underlying ts=some (.slice t)) (hi:P.info? t=some i) (hz:i.zero=some z) (hsize:i.size=k) (hby:i.bytes=bytes) (hzs:z.cells.size=k) (hk0:0<k) (hk:∀x,(enc x).length=k) (h1:∀x,∀v∈enc x,v.oneCell'=true)
  (v:Value) (l:List α) (hs:a.eval s=v) (hS:SL enc k t w B v l) (gx c:Nat) (l2:List α) (n2:Nat) (hn2:n2=l2.length) (hx:a.eval x= .slice (some ⟨gx,0,none⟩) n2 c) (hR:RC enc k w gx l2) (h63:l.length+l2.length≤maxLen) (hbytes:(l.length+l2.length)*bytes≤140737488355328) (hB:B≤w.heap.size)
  (h:∀v' w',SL enc k t w' B v' (l++l2)→Kp w w' v.ownBlock→(v'.ownBlock=v.ownBlock∨v'.ownBlock=some w.heap.size)→K (a.put o.dst v') w'):o.wp P a w K Q:=by
 subst hn2
 obtain ⟨v',w',hrun,h2,h3,_,h5⟩:=run_append_own_at (P:=P) w B ts o.type t i z k bytes ht hi hz hsize hby hzs hk0 v l.length (l.flatMap enc) (hS.own hk) ⟨gx,0,none⟩ l2.length c (l2.flatMap enc) (flat_len hk l2) (fun j u hj=>by rw [Addr.add_lit,Nat.zero_add];exact hR.flat hk j u hj) (fun u hu=>by
  obtain ⟨y,_,hy⟩:=List.mem_flatMap.1 hu
  exact h1 y u hy) h63 hbytes hB
 have hd:=run_drawn P _ _ _ _ hrun
 unfold Oper.wp execOp
 simp only [hop,resolve,invoke,builtin,Sem.run_bind,Sem.run_pure,Result.andThen_ok,List.map_toArray,List.map_cons,List.map_nil,hs,hx,hrun]
 refine h v' w' (SL.of_own ?_ hk) ⟨h3,hd⟩ h5
 rw [List.length_append,List.flatMap_append]
 exact h2
end
theorem wrapU8_id {n:Int} (h1:0≤n) (h2:n<256):IntKind.u8.wrap n=n:=by
 have h3:(2:Int) ^ IntKind.bits .u8=256:=by decide
 have h5:IntKind.signed .u8=false:=rfl
 simp only [IntKind.wrap,h3,h5,Bool.false_and,Bool.false_eq_true,if_false]
 omega
theorem RC.drew {α:Type} {enc:α→List Value} {k:Nat} {w:World} {g:Nat} {l:List α} (h:RC enc k w g l):RC enc k w.drew g l:=fun j hj i u hu=>h j hj i u hu
def Sep3 (a b c:Value):Prop:=(∀g,a.ownBlock=some g→b.ownBlock≠some g)∧(∀g,a.ownBlock=some g→c.ownBlock≠some g)∧(∀g,b.ownBlock=some g→c.ownBlock≠some g)
theorem Sep3.nil:Sep3 (.slice none 0 0) (.slice none 0 0) (.slice none 0 0):=by refine⟨?_,?_,?_⟩<;>(intro g h;simp [Value.ownBlock]at h)
theorem Sep3.a {a b c a':Value} {n:Nat} (h:Sep3 a b c) (ho:a'.ownBlock=a.ownBlock∨a'.ownBlock=some n) (hb:∀g,b.ownBlock=some g→g<n) (hc:∀g,c.ownBlock=some g→g<n):Sep3 a' b c:=by
 rcases ho with ho|ho
 ·exact⟨fun g e=>h.1 g (ho ▸ e),fun g e=>h.2.1 g (ho ▸ e),h.2.2⟩
 ·refine⟨fun g e e2=>?_,fun g e e2=>?_,h.2.2⟩
  ·rw [ho]at e;have:=Option.some.inj e;have:=hb g e2;omega
  ·rw [ho]at e;have:=Option.some.inj e;have:=hc g e2;omega
theorem Sep3.b {a b c b':Value} {n:Nat} (h:Sep3 a b c) (ho:b'.ownBlock=b.ownBlock∨b'.ownBlock=some n) (ha:∀g,a.ownBlock=some g→g<n) (hc:∀g,c.ownBlock=some g→g<n):Sep3 a b' c:=by
 rcases ho with ho|ho
 ·exact⟨fun g e=>ho ▸ h.1 g e,h.2.1,fun g e=>h.2.2 g (ho ▸ e)⟩
 ·refine⟨fun g e e2=>?_,h.2.1,fun g e e2=>?_⟩
  ·rw [ho]at e2;have:=Option.some.inj e2;have:=ha g e;omega
  ·rw [ho]at e;have:=Option.some.inj e;have:=hc g e2;omega
theorem Sep3.c {a b c c':Value} {n:Nat} (h:Sep3 a b c) (ho:c'.ownBlock=c.ownBlock∨c'.ownBlock=some n) (ha:∀g,a.ownBlock=some g→g<n) (hb:∀g,b.ownBlock=some g→g<n):Sep3 a b c':=by
 rcases ho with ho|ho
 ·exact⟨h.1,fun g e=>ho ▸ h.2.1 g e,fun g e=>ho ▸ h.2.2 g e⟩
 ·refine⟨h.1,fun g e e2=>?_,fun g e e2=>?_⟩
  ·rw [ho]at e2;have:=Option.some.inj e2;have:=ha g e;omega
  ·rw [ho]at e2;have:=Option.some.inj e2;have:=hb g e;omega
theorem RC.fT6 {w:World} {g:Nat} {l:List T2} (h:RC t6C 6 w g l) {t:Nat} (ht:t<l.length) {i:Nat} (hi:i<3) {p:P2} (hp:cor3 l[t] i=p):w.cell? ⟨g,t*6+i*2,none⟩=some (.int .i64 (p.1:Int))∧w.cell? ⟨g,t*6+i*2+1,none⟩=some (.int .i64 (p.2:Int)):=by
 subst hp
 rcases(show i=0∨i=1∨i=2 by omega)with rfl|rfl|rfl
 ·exact⟨h t ht 0 _ rfl,h t ht 1 _ rfl⟩
 ·exact⟨h t ht 2 _ rfl,h t ht 3 _ rfl⟩
 ·exact⟨h t ht 4 _ rfl,h t ht 5 _ rfl⟩
theorem RC.fP2 {w:World} {g:Nat} {l:List P2} (h:RC p2I 2 w g l) {k:Nat} (hk:k<l.length) {p:P2} (hp:l[k]=p):w.cell? ⟨g,k*2,none⟩=some (.int .i64 (p.1:Int))∧w.cell? ⟨g,k*2+1,none⟩=some (.int .i64 (p.2:Int)):=by
 subst hp
 exact⟨h k hk 0 _ rfl,h k hk 1 _ rfl⟩
theorem cor3_rot (t:T2) (r:Nat) {i:Nat} (hi:i<3):cor3 (rotT t r) i=cor3 t ((i+r) % 3):=by
 rcases(show r % 3=0∨r % 3=1∨r % 3=2 by omega)with h|h|h<;>rcases(show i=0∨i=1∨i=2 by omega)with rfl|rfl|rfl
 all_goals
  first
  | (have e:(0+r) % 3=0:=by omega)
  | (have e:(0+r) % 3=1:=by omega)
  | (have e:(0+r) % 3=2:=by omega)
  first
  | (have e':(1+r) % 3=0:=by omega)
  | (have e':(1+r) % 3=1:=by omega)
  | (have e':(1+r) % 3=2:=by omega)
  first
  | (have e'':(2+r) % 3=0:=by omega)
  | (have e'':(2+r) % 3=1:=by omega)
  | (have e'':(2+r) % 3=2:=by omega)
  unfold rotT
  rw [h]
  first
  | rw [e];rfl
  | rw [e'];rfl
  | rw [e''];rfl
def nnC (ix:Nat→Nat) (i:Nat):List Value:= [.int .i64 ((if 0<i then ix 0 else 0:Nat):Int),.int .i64 ((if 1<i then ix 1 else 0:Nat):Int),.int .i64 ((if 2<i then ix 2 else 0:Nat):Int)]
theorem nnC_set (ix:Nat→Nat) {i:Nat} (hi:i<3):(nnC ix i).set i (.int .i64 (ix i:Int))=nnC ix (i+1):=by
 rcases(show i=0∨i=1∨i=2 by omega)with rfl|rfl|rfl<;>simp [nnC]
end Go.Proofs.YtfgmdhjmgdccdaaGreat
