/-
  Part 47 of the proof: TuP.
-/
import Derived.Test.YtmbmeggbojfecaaGreatJ46
set_option linter.unusedSimpArgs false
set_option linter.unusedVariables false
namespace Go.Proofs.YtmbmeggbojfecaaGreat
open Go.RowKit Gus Go.Maps
def rot3 (t:Tri) (j:Nat):Tri:=(crn t (j % 3),crn t ((j+1) % 3),crn t ((j+2) % 3))
theorem rot3_cases (t:Tri) (j:Nat):j % 3=0∧rot3 t j=t∨j % 3=1∧rot3 t j=(t.2.1,t.2.2,t.1)∨j % 3=2∧rot3 t j=(t.2.2,t.1,t.2.1):=by
 obtain ⟨a,b,c⟩:=t
 unfold rot3
 rcases(show j % 3=0∨j % 3=1∨j % 3=2 by omega)with h|h|h
 ·rw [h,show(j+1) % 3=1 by omega,show(j+2) % 3=2 by omega];exact .inl ⟨rfl,rfl⟩
 ·rw [h,show(j+1) % 3=2 by omega,show(j+2) % 3=0 by omega];exact .inr (.inl ⟨rfl,rfl⟩)
 ·rw [h,show(j+1) % 3=0 by omega,show(j+2) % 3=1 by omega];exact .inr (.inr ⟨rfl,rfl⟩)
theorem triOf_rot (P:List P2) (t:T2) (j:Nat):triOf P (rotT t j)=rot3 (triOf P t) j:=by
 rcases rot3_cases (triOf P t) j with⟨h,e⟩|⟨h,e⟩|⟨h,e⟩<;>rw [e]<;>unfold rotT<;>rw [h]<;>rfl
theorem has3_rot (t:Tri) (j a:Nat):has3 (rot3 t j) a=has3 t a:=by
 rcases rot3_cases t j with⟨_,e⟩|⟨_,e⟩|⟨_,e⟩<;>rw [e]<;>unfold has3<;>simp<;>grind
theorem goodT_rot {n:Nat} {t:Tri} (j:Nat) (h:goodT n t):goodT n (rot3 t j):=by
 obtain ⟨a,b,c,d,e,f⟩:=h
 rcases rot3_cases t j with⟨_,h⟩|⟨_,h⟩|⟨_,h⟩<;>rw [h]<;>unfold goodT<;>(try simp only)<;>refine⟨?_,?_,?_,?_,?_,?_⟩<;>omega
def kOf (bs:List Nat) (i:Nat):Nat:=if bs.length=0 then 0 else bs.getD (i % bs.length) 0
def turn3 (bs:List Nat) (l:List Tri):List Tri:=l.mapIdx fun i t=>rot3 t (kOf bs i)
theorem turn3_len (bs:List Nat) (l:List Tri):(turn3 bs l).length=l.length:=by simp [turn3]
theorem turn3_get {bs:List Nat} {l:List Tri} {i:Nat} {t:Tri} (h:l[i]? =some t):(turn3 bs l)[i]? =some (rot3 t (kOf bs i)):=by simp [turn3,h]
theorem turn3_good {n:Nat} {bs:List Nat} {l:List Tri} (h:∀t∈l,goodT n t):∀t∈turn3 bs l,goodT n t:=by
 intro t ht
 unfold turn3 at ht
 rw [List.mem_mapIdx]at ht
 obtain ⟨i,hi,rfl⟩:=ht
 exact goodT_rot _ (h _ (List.getElem_mem hi))
theorem turn3_any {bs:List Nat} {l:List Tri} {p:Tri→Prop} (hp:∀t j,p (rot3 t j)↔p t):(∃t∈turn3 bs l,p t)↔∃t∈l,p t:=by
 constructor
 ·rintro ⟨t,ht,h⟩
  unfold turn3 at ht
  rw [List.mem_mapIdx]at ht
  obtain ⟨i,hi,rfl⟩:=ht
  exact⟨_,List.getElem_mem hi,(hp _ _).1 h⟩
 ·rintro ⟨t,ht,h⟩
  obtain ⟨i,hi,rfl⟩:=List.getElem_of_mem ht
  exact⟨rot3 l[i] (kOf bs i),List.mem_of_getElem? (turn3_get (List.getElem?_eq_getElem hi)),(hp _ _).2 h⟩
theorem esM_turn {n:Nat} {bs:List Nat} {l:List Tri} (hl:∀t∈l,goodT n t):ends (esM (turn3 bs l))=ends (esM l):=by
 have hl':=turn3_good (bs:=bs) hl
 refine sorted_ext (es_sorted (stE_nodup _ _) (esM_perm _) (esM_sorted _)) (es_sorted (stE_nodup _ _) (esM_perm _) (esM_sorted _)) fun p=>?_
 have key:∀a b:Nat,((a:Int),(b:Int))∈ends (esM (turn3 bs l))↔((a:Int),(b:Int))∈ends (esM l):=fun a b=>by
  rw [esM_mem hl',esM_mem hl,turn3_any (p:=fun t=>has3 t a=true∧has3 t b=true) (fun t j=>by rw [has3_rot,has3_rot])]
 constructor
 ·intro hp
  obtain ⟨e,he,rfl⟩:=List.mem_map.1 hp
  obtain ⟨i,j,h1,h2,_,_⟩:=esM_Ends hl' e he
  rw [h1,h2]at hp ⊢
  exact(key i j).1 hp
 ·intro hp
  obtain ⟨e,he,rfl⟩:=List.mem_map.1 hp
  obtain ⟨i,j,h1,h2,_,_⟩:=esM_Ends hl e he
  rw [h1,h2]at hp ⊢
  exact(key i j).2 hp
theorem edgeNo_ends {es es':List Edg} (h:ends es=ends es') (a b:Nat):edgeNo es a b=edgeNo es' a b:=by
 have e:∀l:List Edg,edgeNo l a b=(ends l).findIdx fun p=>p.1 == ((min a b:Nat):Int) && p.2 == ((max a b:Nat):Int):=fun l=>by
  unfold edgeNo ends
  rw [List.findIdx_map]
  rfl
 rw [e,e,h]
def turnM (bs:List Nat) (m:Msh):Msh:=⟨m.pts,turn3 bs m.tris,m.sides⟩
theorem turn_len {bs:List Nat} {m:Msh} (hl:∀t∈m.tris,goodT m.pts.length t):(esM (turn3 bs m.tris)).length=(esM m.tris).length:=by
 have:=congrArg List.length (esM_turn (bs:=bs) hl)
 simpa [ends] using this
theorem turn_num {bs:List Nat} {m:Msh} (o:Nat) (hl:∀t∈m.tris,goodT m.pts.length t):numM o (turnM bs m)=numM o m:=by
 unfold numM turnM
 simp only [turn_len hl]
theorem turn_at {bs:List Nat} {m:Msh} (o:Nat) (hl:∀t∈m.tris,goodT m.pts.length t):atM o (turnM bs m)=atM o m:=by
 have e:∀l:List Edg,l.map (midE m.pts)=(ends l).map fun p=>midP (m.pts.getD p.1.toNat ⟨0,0⟩) (m.pts.getD p.2.toNat ⟨0,0⟩):=fun l=>by
  unfold ends midE
  rw [List.map_map]
  rfl
 unfold atM turnM
 simp only [e,esM_turn hl]
theorem turn_row {bs:List Nat} {m:Msh} (o:Nat) (ho:o=1∨o=2) (hl:∀t∈m.tris,goodT m.pts.length t) (t:Tri) (k:Nat):(rowM o (turnM bs m) (rot3 t k)).length=(rowM o m t).length∧
  ∀j,j<(rowM o m t).length→j / 3*3+(j % 3+k) % 3<(rowM o m t).length∧(rowM o (turnM bs m) (rot3 t k)).getD j 0=(rowM o m t).getD (j / 3*3+(j % 3+k) % 3) 0:=by
 have e:∀a b,edgeNo (esM (turn3 bs m.tris)) a b=edgeNo (esM m.tris) a b:=fun a b=>edgeNo_ends (esM_turn hl) a b
 have e1:∀t,rowM o (turnM bs m) t=rowM o m t:=fun t=>by unfold rowM turnM rowT;simp only [e]
 rw [e1]
 unfold rowM rowT
 rcases ho with rfl|rfl
 ·refine⟨rfl,fun j hj=>?_⟩
  have hj3:j<3:=hj
  refine⟨by show _<3;omega,?_⟩
  rcases rot3_cases t k with⟨h,e⟩|⟨h,e⟩|⟨h,e⟩<;>rw [e]<;>rcases(show j=0∨j=1∨j=2 by omega)with rfl|rfl|rfl
  all_goals first
   | (rw [show(0:Nat) / 3*3+(0 % 3+k) % 3=k % 3 by omega,h]<;>rfl)
   | (rw [show(1:Nat) / 3*3+(1 % 3+k) % 3=(k % 3+1) % 3 by omega,h]<;>rfl)
   | (rw [show(2:Nat) / 3*3+(2 % 3+k) % 3=(k % 3+2) % 3 by omega,h]<;>rfl)
 ·refine⟨rfl,fun j hj=>?_⟩
  have hj3:j<6:=hj
  refine⟨by show _<6;omega,?_⟩
  rcases rot3_cases t k with⟨h,e⟩|⟨h,e⟩|⟨h,e⟩<;>rw [e]<;>rcases(show j=0∨j=1∨j=2∨j=3∨j=4∨j=5 by omega)with rfl|rfl|rfl|rfl|rfl|rfl
  all_goals first
   | (rw [show(0:Nat) / 3*3+(0 % 3+k) % 3=k % 3 by omega,h]<;>rfl)
   | (rw [show(1:Nat) / 3*3+(1 % 3+k) % 3=(k % 3+1) % 3 by omega,h]<;>rfl)
   | (rw [show(2:Nat) / 3*3+(2 % 3+k) % 3=(k % 3+2) % 3 by omega,h]<;>rfl)
   | (rw [show(3:Nat) / 3*3+(3 % 3+k) % 3=3+k % 3 by omega,h]<;>rfl)
   | (rw [show(4:Nat) / 3*3+(4 % 3+k) % 3=3+(k % 3+1) % 3 by omega,h]<;>rfl)
   | (rw [show(5:Nat) / 3*3+(5 % 3+k) % 3=3+(k % 3+2) % 3 by omega,h]<;>rfl)
theorem Net.turn {P:List P2} {L:List T2} (h:Net P L) (r:Nat→Nat):Net P (turned r L):=by
 refine⟨h.nd,turned_pair h.pair,turned_all (p:=fun t=>posB t=true) (fun t j ht=>by rw [posB_rot];exact ht) h.pos,fun q=>?_,h.low,?_,?_,h.fewP⟩
 ·rw [h.mem q]
  constructor
  ·rintro ⟨t,ht,hq⟩
   obtain ⟨i,hi,rfl⟩:=List.getElem_of_mem ht
   refine⟨rotT L[i] (r i),?_,by rw [hasP_rot];exact hq⟩
   unfold turned
   rw [List.mem_mapIdx]
   exact⟨i,hi,rfl⟩
  ·rintro ⟨t,ht,hq⟩
   unfold turned at ht
   rw [List.mem_mapIdx]at ht
   obtain ⟨i,hi,rfl⟩:=ht
   exact⟨_,List.getElem_mem hi,by rwa [hasP_rot]at hq⟩
 ·intro e
  have:=congrArg List.length e
  simp [turned]at this
  exact h.one this
 ·unfold turned;rw [List.length_mapIdx];exact h.few
theorem turn3_map (P:List P2) (L:List T2) (bs:List Nat):(turned (kOf bs) L).map (triOf P)=turn3 bs (L.map (triOf P)):=by
 unfold turned turn3
 apply List.ext_getElem?
 intro i
 simp only [List.getElem?_map,List.getElem?_mapIdx,Option.map_map]
 congr 1
 funext t
 exact triOf_rot P t _
theorem RawM.turnE (x:RawM) (bs:List Nat):turnM bs x.mesh=meshOf x.k x.d x.P (turned (kOf bs) x.L) x.sd:=by
 unfold turnM RawM.mesh meshOf
 simp only [turn3_map]
theorem rim_turn {tris sd:List Tri} (bs:List Nat) (h:RimOk tris sd):RimOk (turn3 bs tris) sd:=by
 refine⟨h.srt,fun a b=>?_⟩
 rw [h.mem a b]
 have e:(turn3 bs tris).countP (fun t=>has3 t a && has3 t b)=tris.countP fun t=>has3 t a && has3 t b:=by
  have:∀(l:List Tri) (r:Nat→Nat),(l.mapIdx fun i t=>rot3 t (r i)).countP (fun t=>has3 t a && has3 t b)=l.countP fun t=>has3 t a && has3 t b:=by
   intro l
   induction l with
   | nil=>intro r;rfl
   | cons t l ih=>
    intro r
    rw [List.mapIdx_cons,List.countP_cons,List.countP_cons,has3_rot,has3_rot]
    have:=ih fun i=>r (i+1)
    rw [this]
  exact this tris (kOf bs)
 rw [e]
theorem t_Check (x:RawM) (bs:List Nat) (W:World) (a b c:Value) (hM:MS W 0 a b c (turnM bs x.mesh)):Calls Tryz.prog 17 #[.agg #[a,b,c]] W (Ret W (.int .i64 0)):=by
 rw [x.turnE]at hM
 exact ms_CheckG (x.net.turn (kOf bs)) x.det x.smallK x.d_pos.1 x.d_pos.2 x.side x.sd_len (by rw [turn3_map];exact rim_turn bs x.rim) a b c W hM
theorem t_Of (x:RawM) (bs:List Nat) (o:Nat) (ho:o=1∨o=2) (W:World) (a b c:Value) (hM:MS W 0 a b c (turnM bs x.mesh)):
  Calls Tryz.prog 7 #[.agg #[a,b,c],.int .i64 (o:Int)] W (fun e w'=> ∃x' y z,e= .returned (.tuple #[tabV o (numM o (turnM bs x.mesh)) x' y z,.int .i64 0])∧TabM w' W.heap.size o (turnM bs x.mesh) x' y z∧Gr W.heap.size W w'):=
 g_Of (turnM bs x.mesh) o ho (Nat.le_trans x.fewN (by omega)) (by show(turn3 bs x.mesh.tris).length≤1000;rw [turn3_len];exact Nat.le_trans x.trisN (by omega)) (turn3_good x.goodM) (by
  intro e
  have:=congrArg List.length e
  change (turn3 bs x.mesh.tris).length=0 at this
  rw [turn3_len]at this
  exact x.goodA.one (List.eq_nil_of_length_eq_zero this)) x.goodA.hp_ (fun W a b c h=>t_Check x bs W a b c h) a b c W hM
end Go.Proofs.YtmbmeggbojfecaaGreat
