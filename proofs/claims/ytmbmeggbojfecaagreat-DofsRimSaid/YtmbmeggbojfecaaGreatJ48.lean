/-
  Part 48 of the proof: RimQ LawR.
-/
import Derived.Test.YtmbmeggbojfecaaGreatJ47
import Derived.Test.YtmbmeggbojfecaaGreatJ45
set_option linter.unusedSimpArgs false
set_option linter.unusedVariables false
namespace Go.Proofs.YtmbmeggbojfecaaGreat
open Go.RowKit Gus Go.Maps
theorem pairNo_at {es:List Edg} (hp:es.Pairwise fun a b=> ¬(a.a=b.a∧a.b=b.b)) {i:Nat} (hi:i<es.length):pairNo (es.map abE) es[i].a es[i].b=(i:Int):=by
 have hi':i<(es.map abE).length:=by rw [List.length_map];exact hi
 refine idxP_take hi' (fun e he=>?_) ?_
 ·obtain ⟨j,hj,rfl⟩:=List.getElem_of_mem he
  have hj2:j<i:=by rw [List.length_take]at hj;omega
  simp only [List.getElem_take,List.getElem_map]
  have:=List.pairwise_iff_getElem.1 hp j i (by omega) hi hj2
  rcases h1:(es[j].a == es[i].a)with _|_
  ·rfl
  ·rcases h2:(es[j].b == es[i].b)with _|_
   ·rfl
   ·exact absurd ⟨eq_of_beq h1,eq_of_beq h2⟩ this
 ·simp
theorem side_edge (x:RawM) {s:Tri} (hs:s∈x.sd):s.1<s.2.1∧∃t∈x.tris,has3 t s.1=true∧has3 t s.2.1=true:=by
 obtain ⟨i,c,h1,h2,h3,h4,rfl⟩:=(sdTo_mem _ _ _ _ s).1 hs
 refine⟨h3,?_⟩
 have:0<x.tris.countP (fun t=>has3 t i && has3 t c):=by rw [h4];omega
 obtain ⟨t,ht,h⟩:=List.countP_pos_iff.1 this
 rw [Bool.and_eq_true]at h
 exact⟨t,ht,h⟩
theorem edge_no (x:RawM) {a b:Nat} (h:a<b) (ht:∃t∈x.tris,has3 t a=true∧has3 t b=true):∃i,∃hi:i<(esM x.tris).length,(esM x.tris)[i].a=(a:Int)∧(esM x.tris)[i].b=(b:Int)∧pairNo ((esM x.tris).map abE) (a:Int) (b:Int)=(i:Int):=by
 have hm:=(esM_mem x.good a b).2 ⟨h,ht⟩
 unfold ends at hm
 obtain ⟨e,he,h1⟩:=List.mem_map.1 hm
 injection h1 with h1 h2
 obtain ⟨i,hi,rfl⟩:=List.getElem_of_mem he
 refine⟨i,hi,h1,h2,?_⟩
 rw [←h1,←h2]
 exact pairNo_at (esM_pair x.tris) hi
theorem ptsAt (x:RawM) {i:Nat} (h:i<x.P.length):x.mesh.pts[i]? =some (ptM x.k x.d x.P[i]):=by
 show(x.P.map (ptM x.k x.d))[i]? =_
 rw [List.getElem?_map,List.getElem?_eq_getElem h]
 rfl
theorem has3_L (x:RawM) {t:Tri} (ht:t∈x.tris) {i:Nat} (hi:i<x.P.length) (h:has3 t i=true):∃T∈x.L,t=triOf x.P T∧hasP T x.P[i]=true:=by
 obtain ⟨T,hT,rfl⟩:=List.mem_map.1 ht
 refine⟨T,hT,rfl,?_⟩
 have hq:x.P[i]∈x.P:=List.getElem_mem hi
 rw [←has3_tri (x.net.at hT) hq,idx_of x.net.nd (List.getElem?_eq_getElem hi)]
 exact h
theorem P_inj (x:RawM) {i j:Nat} (hi:i<x.P.length) (hj:j<x.P.length) (h:x.P[i]=x.P[j]):i=j:=by
 have:=idx_of x.net.nd (List.getElem?_eq_getElem hi)
 rw [h,idx_of x.net.nd (List.getElem?_eq_getElem hj)]at this
 exact this.symm
theorem idxP_L (x:RawM) {t:Tri} {T:T2} (hT:T∈x.L) (e:t=triOf x.P T) {i:Nat} (hi:i<x.P.length) (h:has3 t i=true):hasP T x.P[i]=true:=by
 subst e
 have hq:x.P[i]∈x.P:=List.getElem_mem hi
 rw [←has3_tri (x.net.at hT) hq,idx_of x.net.nd (List.getElem?_eq_getElem hi)]
 exact h
theorem rim_law (x:RawM) (o:Nat) (ho:o=1∨o=2) {s:Tri} (hs:s∈x.sd) {j:Nat} {p a b:Pt} (hj:(atM o x.mesh)[j]? =some p) (ha:x.mesh.pts[s.1]? =some a) (hb:x.mesh.pts[s.2.1]? =some b):
  onP a b p=true↔j∈sideD o (numM o x.mesh) ((esM x.mesh.tris).map abE) s:=by
 obtain ⟨h1,t,ht,hta,htb⟩:=side_edge x hs
 have hd:=x.d_pos.1
 have hk:=x.det
 have hb1:=x.side s hs
 obtain ⟨q1,q2,-⟩:=hb1
 rw [ptsAt x q1]at ha
 rw [ptsAt x q2]at hb
 injection ha with ha
 injection hb with hb
 subst ha hb
 obtain ⟨i,hi,hea,heb,hno⟩:=edge_no x h1 ⟨t,ht,hta,htb⟩
 obtain ⟨T,hT,heT,hTa⟩:=has3_L x ht q1 hta
 have hTb:=idxP_L x hT heT q2 htb
 have hne:x.P[s.1]≠x.P[s.2.1]:=fun e=>by have:=P_inj x q1 q2 e;omega
 have hsD:∀y,y∈sideD o (numM o x.mesh) ((esM x.mesh.tris).map abE) s↔y=s.1∨y=s.2.1∨(o=2∧y=x.P.length+i):=by
  intro y
  unfold sideD sideL
  rw [Nat.min_eq_left (Nat.le_of_lt h1),Nat.max_eq_right (Nat.le_of_lt h1)]
  rw [show pairNo ((esM x.mesh.tris).map abE) ((s.1:Nat):Int) ((s.2.1:Nat):Int)=(i:Int)from hno]
  rcases ho with rfl|rfl
  ·simp
  ·simp only [if_true,numM,x.ptsN,List.length_map,Int.toNat_natCast,List.mem_append,List.mem_cons,List.not_mem_nil,or_false,true_and]
   rw [show x.P.length+(esM x.mesh.tris).length - (esM x.mesh.tris).length+i=x.P.length+i by omega,or_assoc]
 rw [hsD]
 have hlen:x.mesh.pts.length=x.P.length:=x.ptsN
 by_cases hlt:j<x.P.length
 ·have hp:p=ptM x.k x.d x.P[j]:=by
   have e:(atM o x.mesh)[j]? =x.mesh.pts[j]? :=by
    unfold atM
    split
    ·rw [List.getElem?_append_left (by rw [hlen];exact hlt)]
    ·rfl
   rw [e,ptsAt x hlt]at hj
   injection hj with hj
   exact hj.symm
  subst hp
  obtain ⟨u,hu,huq⟩:=(x.net.mem x.P[j]).1 (List.getElem_mem hlt)
  constructor
  ·intro h
   rcases((x.onOk T hT u hu _ _ hTa hTb hne).1 _ huq (on_grid hk hd h))with e|e
   ·exact .inl (P_inj x hlt q1 e)
   ·exact .inr (.inl (P_inj x hlt q2 e))
  ·rintro (rfl|rfl|⟨_,e⟩)
   ·exact(on_ends hk hd _ _).1
   ·exact(on_ends hk hd _ _).2.1
   ·omega
 ·have ho2:o=2:=by
   rcases ho with rfl|rfl
   ·exfalso
    have:=(List.getElem?_eq_some_iff.1 hj).1
    unfold atM at this
    rw [if_neg (by omega),hlen]at this
    exact hlt this
   ·rfl
  subst ho2
  obtain ⟨c,rfl⟩:∃c,j=x.P.length+c:=⟨j - x.P.length,by omega⟩
  unfold atM at hj
  rw [if_pos rfl,List.getElem?_append_right (by omega),hlen,show x.P.length+c - x.P.length=c by omega,List.getElem?_map]at hj
  obtain ⟨e,he,rfl⟩:=Option.map_eq_some_iff.1 hj
  obtain ⟨hc,rfl⟩:=List.getElem?_eq_some_iff.1 he
  have hc1:c<(esM x.tris).length:=hc
  obtain ⟨ea,eb,hEa,hEb,la,lb⟩:=esM_Ends x.good _ (List.getElem_mem hc1)
  obtain ⟨hab,u,hu,hua,hub⟩:=(esM_mem x.good ea eb).1 (List.mem_map.2 ⟨(esM x.tris)[c],List.getElem_mem hc1,by rw [hEa,hEb]⟩)
  obtain ⟨U,hU,heU,hUa⟩:=has3_L x hu la hua
  have hUb:=idxP_L x hU heU lb hub
  have hmid:midE x.mesh.pts ((esM x.mesh.tris)[c]'hc)=midP (ptM x.k x.d x.P[ea]) (ptM x.k x.d x.P[eb]):=by
   unfold midE
   rw [show((esM x.mesh.tris)[c]'hc).a=(ea:Int)from hEa,show((esM x.mesh.tris)[c]'hc).b=(eb:Int)from hEb,Int.toNat_natCast,Int.toNat_natCast,List.getD_eq_getElem?_getD,List.getD_eq_getElem?_getD,ptsAt x la,ptsAt x lb]
   rfl
  rw [hmid]
  have hne2:x.P[ea]≠x.P[eb]:=fun e=>by have:=P_inj x la lb e;omega
  constructor
  ·intro h
   rw [ptM_mid x.k hd,←ptM_dbl x.k hd x.P[s.1],←ptM_dbl x.k hd x.P[s.2.1]]at h
   have hci:ea=s.1∧eb=s.2.1:=by
    rcases(x.onOk T hT U hU _ _ hTa hTb hne).2 _ _ hUa hUb hne2 (on_grid hk (by omega) h)with⟨e1,e2⟩|⟨e1,e2⟩
    ·exact⟨P_inj x la q1 e1,P_inj x lb q2 e2⟩
    ·have f1:=P_inj x la q2 e1
     have f2:=P_inj x lb q1 e2
     omega
   have hn:=pairNo_at (esM_pair x.tris) hc1
   rw [hEa,hEb,hci.1,hci.2,hno]at hn
   exact .inr (.inr ⟨rfl,by omega⟩)
  ·rintro (e|e|⟨_,e⟩)
   ·omega
   ·omega
   ·have hci:c=i:=by omega
    subst hci
    have f1:ea=s.1:=by rw [hEa]at hea;omega
    have f2:eb=s.2.1:=by rw [hEb]at heb;omega
    subst f1 f2
    exact(on_ends hk hd _ _).2.2
end Go.Proofs.YtmbmeggbojfecaaGreat
namespace Go.Proofs.YtmbmeggbojfecaaGreat
open Go.RowKit Gus Go.Maps
theorem look_B {w:World} {b:Nat} {R:List Nat} (h:MIB w b R) {k:Nat} (hk:k<9223372036854775808):(Instr.lookup 60 (.map (some b)) (.int .i64 (k:Int)) false).run Tryz.prog w= .ok (.bool (decide (k∈R))) w:=by
 have hkey:=keyOf_B (k:=(k:Int)) (wf_nat hk)
 have hz:(zeroValue 4).run Tryz.prog w= .ok (.bool false) w:=Tryz.zeroValue4 w
 by_cases hm:k∈R
 ·rw [decide_eq_true hm]
  exact MI.look_some false h keyed_B under_B hz hkey (List.mem_map.2 ⟨k,hm,rfl⟩)
 ·rw [decide_eq_false hm]
  exact MI.look_none false h keyed_B under_B hz hkey (fun p hp e=>by
   obtain ⟨x,hx,rfl⟩:=List.mem_map.1 hp
   have:(x:Int)=(k:Int):=by simpa using e
   exact hm ((show x=k by omega) ▸ hx))
theorem any_succ {α:Type} {f:α→Bool} {l:List α} {i:Nat} (h:i<l.length) {s:α} (hs:l[i]=s):(l.take (i+1)).any f=((l.take i).any f || f s):=by
 rw [List.take_add_one,List.getElem?_eq_getElem h,hs]
 simp
noncomputable abbrev tlR (n:Nat):Code:=tailW n ((Tryz.f5).body.getD .skip)
def onS3 (m:Msh) (p:Pt) (s:Tri):Bool:=onP (m.pts.getD s.1 ⟨0,0⟩) (m.pts.getD s.2.1 ⟨0,0⟩) p
variable {vv0 vv1 vv2 vv3 vv4 vv5 vv6 vv7 vv8 vv9 vv10 vv11 vv12 vv13 vv14 vv15 vv16 vv17 vv18 vv19 vv20 vv21 vv22 vv23 vv24 vv25 vv26 vv27 vv28 vv29 vv30 vv31 vv32 vv33 vv34 vv35 vv36 vv37 vv38 vv39 vv40 vv41 vv42 vv43 vv44 vv45 vv46 vv47 vv48 vv49 vv50 vv51 vv52 vv53 vv54 vv55 vv56 vv57 vv58 vv59 vv60 vv61 vv62 vv63 vv64 vv65 vv66 vv67 vv68 vv69 vv70 vv71 vv72 vv73 vv74 vv75 vv76 vv77 vv78 vv79 vv80 vv81 vv82 vv83 vv84 vv85 vv86 vv87 vv88 vv89 vv90 vv91 vv92 vv93 vv94 vv95 vv96 vv97 vv98 vv99 vv100 vv101 vv102 vv103 vv104 vv105 vv106 vv107 vv108 vv109 vv110 vv111 vv112 vv113 vv114 vv115 vv116 vv117 vv118 vv119 vv120 vv121 vv122 vv123 vv124 vv125 vv126 vv127 vv128 vv129 vv130 vv131 vv132 vv133 vv134 vv135 vv136 vv137 vv138 vv139 vv140 vv141 vv142 vv143 vv144 vv145 vv146 vv147 vv148 vv149 vv150 vv151 vv152 vv153 vv154 vv155 vv156 vv157 vv158 vv159 vv160 vv161 vv162 vv163 vv164 vv165 vv166 vv167 vv168 vv169 vv170 vv171 vv172 vv173 vv174 vv175 vv176 vv177 vv178 vv179 vv180 vv181 vv182 vv183 vv184 vv185 vv186 vv187 vv188 vv189 vv190 vv191 vv192 vv193 vv194 vv195 vv196 vv197 vv198 vv199 vv200 vv201 vv202 vv203 vv204 vv205 vv206:Value}
set_option maxRecDepth 20000 in
set_option maxHeartbeats 8000000 in
theorem rim13 (w W:World) (two:Bool) (m:Msh) (o N E mb tb mp:Nat) (ap at_ as_ ax ay az:Option Addr) (cp ct cs cx cy cz:Nat) (R:List Nat) (hV:VB W mb [.slice ap m.pts.length cp,.slice at_ m.tris.length ct,.slice as_ m.sides.length cs]) (hT:VB W tb [.int .i64 (o:Int),.int .i64 (N:Int),.slice ax m.tris.length cx,.slice ay N cy,.slice az E cz]) (hP:SR pC 10 57 W 0 (.slice ap m.pts.length cp) m.pts) (hS:SR triC 3 63 W 0 (.slice as_ m.sides.length cs) m.sides) (hA:SR pC 10 57 W 0 (.slice ay N cy) (atM o m)) (hN:(atM o m).length=N) (hM:MIB W mp R) (hPl:m.pts.length≤1000) (hSl:m.sides.length≤1000000) (hNl:N≤1000000)
  (hsd:∀s∈m.sides,s.1<m.pts.length∧s.2.1<m.pts.length) (hpt:∀p∈m.pts,hp p≤1000000000) (hat:∀p∈atM o m,hp p≤1000000000) (hlaw:∀(k:Nat) (hk:k<(atM o m).length),(m.sides.any (onS3 m (atM o m)[k]))=decide (k∈R))
  (hNX:∀(W':World) (vv0 vv2 vv3 vv4 vv7 vv8 vv10 vv11 vv12 vv13 vv14 vv15 vv16 vv17 vv18 vv19 vv20 vv21 vv22 vv23 vv24 vv25 vv26 vv27 vv28 vv29 vv30 vv31 vv32 vv33 vv34 vv35 vv36 vv37 vv38 vv39 vv40 vv41 vv42 vv43 vv44 vv45 vv46 vv47 vv48 vv49 vv50 vv51 vv52 vv53 vv54 vv55 vv56 vv57 vv58 vv59 vv60 vv61 vv62 vv63 vv64 vv65 vv66 vv67 vv68 vv69 vv70 vv71 vv72 vv73 vv74 vv75 vv76 vv77 vv78 vv79 vv80 vv81 vv82 vv83 vv84 vv85 vv86 vv87 vv88 vv89 vv90 vv91 vv92 vv93 vv94 vv95 vv96 vv97 vv98 vv99 vv100 vv101 vv102 vv103 vv104 vv105 vv106 vv107 vv108 vv109 vv110 vv111 vv112 vv113 vv114 vv115 vv116 vv117 vv118 vv119 vv120 vv121 vv122 vv123 vv124 vv125 vv126 vv127 vv128 vv129 vv130 vv131 vv132 vv133 vv134 vv135 vv136 vv137 vv138 vv139 vv140 vv141 vv142 vv143 vv144 vv145 vv146 vv147 vv148 vv149 vv150 vv151 vv152 vv153 vv154 vv155 vv156 vv157 vv158 vv159 vv160 vv161 vv162 vv163 vv164 vv165 vv166 vv167 vv168 vv169 vv170 vv171 vv172 vv173 vv174 vv175 vv176 vv177 vv178 vv179 vv180 vv181 vv182 vv183 vv184 vv185 vv186 vv187 vv188 vv189 vv190 vv191 vv192 vv193 vv194 vv195 vv196 vv197 vv198 vv199 vv200 vv201 vv202 vv203 vv204 vv205 vv206:Value),Gr W.heap.size W W'→Code.wp Tryz.prog (tlR 23) (bodyPost Tryz.prog Tryz.f5 (fun e w'=>e= .returned (.bool true)∧Below w.heap.size w w')) {tmps:= #[vv0,.bool two,vv2,vv3,vv4,.pointer (some ⟨mb,0,none⟩),.pointer (some ⟨tb,0,none⟩),vv7,vv8,.map (some mp),vv10,vv11,vv12,vv13,vv14,vv15,vv16,vv17,vv18,vv19,vv20,vv21,vv22,vv23,vv24,vv25,vv26,vv27,vv28,vv29,vv30,vv31,vv32,vv33,vv34,vv35,vv36,vv37,vv38,vv39,vv40,vv41,vv42,vv43,vv44,vv45,vv46,vv47,vv48,vv49,vv50,vv51,vv52,vv53,vv54,vv55,vv56,vv57,vv58,vv59,vv60,vv61,vv62,vv63,vv64,vv65,vv66,vv67,vv68,vv69,vv70,vv71,vv72,vv73,vv74,vv75,vv76,vv77,vv78,vv79,vv80,vv81,vv82,vv83,vv84,vv85,vv86,vv87,vv88,vv89,vv90,vv91,vv92,vv93,vv94,vv95,vv96,vv97,vv98,vv99,vv100,vv101,vv102,vv103,vv104,vv105,vv106,vv107,vv108,vv109,vv110,vv111,vv112,vv113,vv114,vv115,vv116,vv117,vv118,vv119,vv120,vv121,vv122,vv123,vv124,vv125,vv126,vv127,vv128,vv129,vv130,vv131,vv132,vv133,vv134,vv135,vv136,vv137,vv138,vv139,vv140,vv141,vv142,vv143,vv144,vv145,vv146,vv147,vv148,vv149,vv150,vv151,vv152,vv153,vv154,vv155,vv156,vv157,vv158,vv159,vv160,vv161,vv162,vv163,vv164,vv165,vv166,vv167,vv168,vv169,vv170,vv171,vv172,vv173,vv174,vv175,vv176,vv177,vv178,vv179,vv180,vv181,vv182,vv183,vv184,vv185,vv186,vv187,vv188,vv189,vv190,vv191,vv192,vv193,vv194,vv195,vv196,vv197,vv198,vv199,vv200,vv201,vv202,vv203,vv204,vv205,vv206],defers:= []} W'):
  Code.wp Tryz.prog (tlR 13) (bodyPost Tryz.prog Tryz.f5 (fun e w'=>e= .returned (.bool true)∧Below w.heap.size w w')) {tmps:= #[vv0,.bool two,vv2,vv3,vv4,.pointer (some ⟨mb,0,none⟩),.pointer (some ⟨tb,0,none⟩),vv7,vv8,.map (some mp),vv10,vv11,vv12,vv13,vv14,vv15,vv16,vv17,vv18,vv19,vv20,vv21,vv22,vv23,vv24,vv25,vv26,vv27,vv28,vv29,vv30,vv31,vv32,vv33,vv34,vv35,vv36,vv37,vv38,vv39,vv40,vv41,vv42,vv43,vv44,vv45,vv46,vv47,vv48,vv49,vv50,vv51,vv52,vv53,vv54,vv55,vv56,vv57,vv58,vv59,vv60,vv61,vv62,vv63,vv64,vv65,vv66,vv67,vv68,vv69,vv70,vv71,vv72,vv73,vv74,vv75,vv76,vv77,vv78,vv79,vv80,vv81,vv82,vv83,vv84,vv85,vv86,vv87,vv88,vv89,vv90,vv91,vv92,vv93,vv94,vv95,vv96,vv97,vv98,vv99,vv100,vv101,vv102,vv103,vv104,vv105,vv106,vv107,vv108,vv109,vv110,vv111,vv112,vv113,vv114,vv115,vv116,vv117,vv118,vv119,vv120,vv121,vv122,vv123,vv124,vv125,vv126,vv127,vv128,vv129,vv130,vv131,vv132,vv133,vv134,vv135,vv136,vv137,vv138,vv139,vv140,vv141,vv142,vv143,vv144,vv145,vv146,vv147,vv148,vv149,vv150,vv151,vv152,vv153,vv154,vv155,vv156,vv157,vv158,vv159,vv160,vv161,vv162,vv163,vv164,vv165,vv166,vv167,vv168,vv169,vv170,vv171,vv172,vv173,vv174,vv175,vv176,vv177,vv178,vv179,vv180,vv181,vv182,vv183,vv184,vv185,vv186,vv187,vv188,vv189,vv190,vv191,vv192,vv193,vv194,vv195,vv196,vv197,vv198,vv199,vv200,vv201,vv202,vv203,vv204,vv205,vv206],defers:= []} W:=by
 have HV:=Lib.hid hV
 have HT:=Lib.hid hT
 have HP:=Lib.hid hP
 have HS:=Lib.hid hS
 have HA:=Lib.hid hA
 have HN:=Lib.hid hN
 have HM:=Lib.hid hM
 have HSD:=Lib.hid hsd
 have HPT:=Lib.hid hpt
 have HAT:=Lib.hid hat
 have HLAW:=Lib.hid hlaw
 have HNX:=Lib.hid hNX
 have hvl:=hV.lt
 have htl:=hT.lt
 clear hV hT hP hS hA hN hM hsd hpt hat hlaw hNX
 have X0:=Lib.hid (HV.out.c 0 _ rfl)
 have X2:=Lib.hid (HV.out.c 2 _ rfl)
 have Y1:=Lib.hid (HT.out.c 1 _ rfl)
 have Y3:=Lib.hid (HT.out.c 3 _ rfl)
 refine wp_seq_k (fun K1 hK1=>?_)
 have hK9:∀a w',Met (fun a w'=>Code.wp Tryz.prog (tlR 23) (bodyPost Tryz.prog Tryz.f5 (fun e w'=>e= .returned (.bool true)∧Below w.heap.size w w')) a w') a w'→K1 a w':=fun a w' h=>hK1 a w' h
 clear hK1
 have hMl:=HM.out.lt
 go_wp2
 go_loopw [11] (fun s wr=> ∃k:Nat,k≤N∧s= .int .i64 k∧Hid (Gr W.heap.size W wr)) (fun s _=>N - (intOf s).toNat)
 case atStart=>exact⟨0,Nat.zero_le _,rfl,Lib.hid (Gr.refl _ _)⟩
 case round=>
  obtain ⟨k,hk,rfl,HQ⟩:=hrel
  have hszq:=HQ.out.size
  have y1:=(HQ.out.cell (p:=⟨tb,1,none⟩) htl).trans Y1.out
  have htbr:tb<wr.heap.size:=by omega
  by_cases hlt:k<N
  ·have qk:(k:Int)<(N:Int):=by omega
   have qk0:(0:Int)≤(k:Int):=by omega
   have hka:k<(atM o m).length:=by rw [HN.out];exact hlt
   obtain ⟨P,hP9⟩:∃P,(atM o m)[k]=P:=⟨_,rfl⟩
   have HPk:=HAT.out P (hP9 ▸ List.getElem_mem hka)
   have HL:=Lib.hid (hP9 ▸ HLAW.out k hka)
   obtain ⟨ga,ca,e4,_,_,_,hsa,hRa⟩:=HA.out.block (by intro e;rw [e]at hka;simp at hka)
   injection e4 with e4 _ e5
   subst e4 e5
   have hga:=hsa.lt
   have HRA:=Lib.hid (hRa.fPt hka hP9)
   clear hRa hsa hP9
   go_wp2
   obtain ⟨w2,hw2⟩:∃q,q=wr:=⟨_,rfl⟩
   subst hw2
   go_loopw [12,13] (fun s12 s13 wq=> ∃i:Nat,i≤m.sides.length∧s12= .bool ((m.sides.take i).any (onS3 m P))∧s13= .int .i64 i∧Hid (Gr W.heap.size W wq)) (fun _ s13 _=>m.sides.length - (intOf s13).toNat)
   case atStart=>exact⟨0,Nat.zero_le _,rfl,rfl,HQ⟩
   case round=>
    clear HQ hszq y1 htbr
    obtain ⟨i,hi,rfl,rfl,HQ⟩:=hrel
    have hszq:=HQ.out.size
    have x2:=(HQ.out.cell (p:=⟨mb,2,none⟩) hvl).trans X2.out
    have hvr:mb<wr.heap.size:=by omega
    by_cases hli:i<m.sides.length
    ·have qi:(i:Int)<(m.sides.length:Int):=by omega
     have qi0:(0:Int)≤(i:Int):=by omega
     obtain ⟨s,hs⟩:∃s,m.sides[i]=s:=⟨_,rfl⟩
     have hnx:=Lib.hid (any_succ (f:=onS3 m P) hli hs)
     obtain ⟨r,hr⟩:∃r,(m.sides.take i).any (onS3 m P)=r:=⟨_,rfl⟩
     rw [hr]
     rw [hr]at hnx
     clear hr
     cases r
     ·obtain ⟨h1,h2⟩:=HSD.out s (hs ▸ List.getElem_mem hli)
      obtain ⟨s1,s2,s3⟩:=s
      dsimp only at h1 h2
      obtain ⟨A,hA9⟩:∃A,m.pts[s1]=A:=⟨_,rfl⟩
      obtain ⟨B,hB9⟩:∃B,m.pts[s2]=B:=⟨_,rfl⟩
      have HOn:=Lib.hid (fun W=>pt_On A B P W (HPT.out A (hA9 ▸ List.getElem_mem h1)) (HPT.out B (hB9 ▸ List.getElem_mem h2)) HPk)
      have hf:onS3 m P (s1,s2,s3)=onP A B P:=by show onP (m.pts.getD s1 _) (m.pts.getD s2 _) P=_;rw [List.getD_eq_getElem?_getD,List.getD_eq_getElem?_getD,List.getElem?_eq_getElem h1,List.getElem?_eq_getElem h2,hA9,hB9];rfl
      rw [hf]at hnx
      clear hf
      obtain ⟨b,hbb⟩:∃b,onP A B P=b:=⟨_,rfl⟩
      simp only [hbb]at HOn hnx
      clear hbb
      obtain ⟨gs,cs',e4,_,_,_,hss,hRs⟩:=HS.out.block (by intro e;rw [e]at hli;simp at hli)
      injection e4 with e4 _ e5
      subst e4 e5
      have hgs:=hss.lt
      obtain ⟨u0,u1,-⟩:=(hRs.gr HQ.out hgs).fTri hli hs
      obtain ⟨gp,cp',e4,_,_,_,hsp,hRp⟩:=HP.out.block (by intro e;rw [e]at h1;simp at h1)
      injection e4 with e4 _ e5
      subst e4 e5
      have hgp:=hsp.lt
      obtain ⟨a0,a1,a2,a3,a4,a5,a6,a7,a8,a9⟩:=(hRp.gr HQ.out hgp).fPt h1 hA9
      obtain ⟨b0,b1,b2,b3,b4,b5,b6,b7,b8,b9⟩:=(hRp.gr HQ.out hgp).fPt h2 hB9
      obtain ⟨d0,d1,d2,d3,d4,d5,d6,d7,d8,d9⟩:=HRA.out
      rw [←HQ.out.cell (p:=⟨ga,k*10,none⟩) hga]at d0
      rw [←HQ.out.cell (p:=⟨ga,k*10+1,none⟩) hga]at d1
      rw [←HQ.out.cell (p:=⟨ga,k*10+2,none⟩) hga]at d2
      rw [←HQ.out.cell (p:=⟨ga,k*10+3,none⟩) hga]at d3
      rw [←HQ.out.cell (p:=⟨ga,k*10+4,none⟩) hga]at d4
      rw [←HQ.out.cell (p:=⟨ga,k*10+5,none⟩) hga]at d5
      rw [←HQ.out.cell (p:=⟨ga,k*10+6,none⟩) hga]at d6
      rw [←HQ.out.cell (p:=⟨ga,k*10+7,none⟩) hga]at d7
      rw [←HQ.out.cell (p:=⟨ga,k*10+8,none⟩) hga]at d8
      rw [←HQ.out.cell (p:=⟨ga,k*10+9,none⟩) hga]at d9
      have x0:=(HQ.out.cell (p:=⟨mb,0,none⟩) hvl).trans X0.out
      have y3:=(HQ.out.cell (p:=⟨tb,3,none⟩) htl).trans Y3.out
      clear hRs hRp hss hsp hA9 hB9 hs
      have hgsr:gs<wr.heap.size:=by omega
      have hgpr:gp<wr.heap.size:=by omega
      have hgar:ga<wr.heap.size:=by omega
      have htbr:tb<wr.heap.size:=by omega
      have z1:(s1:Int)<(m.pts.length:Int):=by omega
      have z2:(s2:Int)<(m.pts.length:Int):=by omega
      have z10:(0:Int)≤(s1:Int):=by omega
      have z20:(0:Int)≤(s2:Int):=by omega
      go_upto_region 20 with fail
      refine wp_region_held_drew (S:=(fun w'=>w'.cell? ⟨mb,0,none⟩=some (.slice (some ⟨gp,0,none⟩) m.pts.length cp)∧w'.cell? ⟨mb,2,none⟩=some (.slice (some ⟨gs,0,none⟩) m.sides.length cs)∧w'.cell? ⟨tb,3,none⟩=some (.slice (some ⟨ga,0,none⟩) N cy)∧w'.cell? ⟨gs,i*3,none⟩=some (.int .i64 (s1:Int))∧w'.cell? ⟨gs,i*3+1,none⟩=some (.int .i64 (s2:Int))∧w'.cell? ⟨gp,s1*10,none⟩=some (.int .u64 (lowN (sz A.x.num)))∧w'.cell? ⟨gp,s1*10+1,none⟩=some (.string (bigS (sz A.x.num)))∧w'.cell? ⟨gp,s1*10+2,none⟩=some (.bool (ng A.x.num))∧w'.cell? ⟨gp,s1*10+3,none⟩=some (.int .u64 (lowN (fm A.x)))∧w'.cell? ⟨gp,s1*10+4,none⟩=some (.string (bigS (fm A.x)))∧w'.cell? ⟨gp,s1*10+5,none⟩=some (.int .u64 (lowN (sz A.y.num)))∧w'.cell? ⟨gp,s1*10+6,none⟩=some (.string (bigS (sz A.y.num)))∧w'.cell? ⟨gp,s1*10+7,none⟩=some (.bool (ng A.y.num))∧w'.cell? ⟨gp,s1*10+8,none⟩=some (.int .u64 (lowN (fm A.y)))∧w'.cell? ⟨gp,s1*10+9,none⟩=some (.string (bigS (fm A.y)))∧w'.cell? ⟨gp,s2*10,none⟩=some (.int .u64 (lowN (sz B.x.num)))∧w'.cell? ⟨gp,s2*10+1,none⟩=some (.string (bigS (sz B.x.num)))∧w'.cell? ⟨gp,s2*10+2,none⟩=some (.bool (ng B.x.num))∧w'.cell? ⟨gp,s2*10+3,none⟩=some (.int .u64 (lowN (fm B.x)))∧w'.cell? ⟨gp,s2*10+4,none⟩=some (.string (bigS (fm B.x)))∧w'.cell? ⟨gp,s2*10+5,none⟩=some (.int .u64 (lowN (sz B.y.num)))∧w'.cell? ⟨gp,s2*10+6,none⟩=some (.string (bigS (sz B.y.num)))∧w'.cell? ⟨gp,s2*10+7,none⟩=some (.bool (ng B.y.num))∧w'.cell? ⟨gp,s2*10+8,none⟩=some (.int .u64 (lowN (fm B.y)))∧w'.cell? ⟨gp,s2*10+9,none⟩=some (.string (bigS (fm B.y)))∧w'.cell? ⟨ga,k*10,none⟩=some (.int .u64 (lowN (sz P.x.num)))∧w'.cell? ⟨ga,k*10+1,none⟩=some (.string (bigS (sz P.x.num)))∧w'.cell? ⟨ga,k*10+2,none⟩=some (.bool (ng P.x.num))∧w'.cell? ⟨ga,k*10+3,none⟩=some (.int .u64 (lowN (fm P.x)))∧w'.cell? ⟨ga,k*10+4,none⟩=some (.string (bigS (fm P.x)))∧w'.cell? ⟨ga,k*10+5,none⟩=some (.int .u64 (lowN (sz P.y.num)))∧w'.cell? ⟨ga,k*10+6,none⟩=some (.string (bigS (sz P.y.num)))∧w'.cell? ⟨ga,k*10+7,none⟩=some (.bool (ng P.y.num))∧w'.cell? ⟨ga,k*10+8,none⟩=some (.int .u64 (lowN (fm P.y)))∧w'.cell? ⟨ga,k*10+9,none⟩=some (.string (bigS (fm P.y))))) (by kernel_rfl) ?_ (fun hHeld=>?_)
      ·simp [go_sem, *]
      refine tk 0 (some 88) (.bool false) ?_
      try simp only [pS]
      refine tk 1 (some 89) (.bool false) ?_
      try simp only [pS]
      refine tk 2 (some 90) (.pointer (some ⟨mb,0,none⟩)) ?_
      try simp only [pS]
      refine tk 3 (some 91) (.slice (some ⟨gp,0,none⟩) m.pts.length cp) ?_
      try simp only [pS]
      refine tk 4 (some 92) (.pointer (some ⟨mb,2,none⟩)) ?_
      try simp only [pS]
      refine tk 5 (some 93) (.slice (some ⟨gs,0,none⟩) m.sides.length cs) ?_
      try simp only [pS]
      refine tk 6 (some 94) (.int .i64 (i:Int)) ?_
      try simp only [pS]
      refine tk 7 (some 95) (.pointer (some ⟨gs,i*3,none⟩)) ?_
      try simp only [pS]
      refine tk 8 (some 96) (.pointer (some ⟨gs,i*3,none⟩)) ?_
      try simp only [pS]
      refine tk 9 (some 97) (.int .i64 (s1:Int)) ?_
      try simp only [pS]
      refine tk 10 (some 98) (.pointer (some ⟨gp,s1*10,none⟩)) ?_
      try simp only [pS]
      refine tk 11 (some 99) (.agg #[.int .u64 (lowN (sz A.x.num)),.string (bigS (sz A.x.num)),.bool (ng A.x.num),.int .u64 (lowN (fm A.x)),.string (bigS (fm A.x)),.int .u64 (lowN (sz A.y.num)),.string (bigS (sz A.y.num)),.bool (ng A.y.num),.int .u64 (lowN (fm A.y)),.string (bigS (fm A.y))]) ?_
      try simp only [pS]
      refine tk 12 (some 100) (.pointer (some ⟨mb,0,none⟩)) ?_
      try simp only [pS]
      refine tk 13 (some 101) (.slice (some ⟨gp,0,none⟩) m.pts.length cp) ?_
      try simp only [pS]
      refine tk 14 (some 102) (.pointer (some ⟨mb,2,none⟩)) ?_
      try simp only [pS]
      refine tk 15 (some 103) (.slice (some ⟨gs,0,none⟩) m.sides.length cs) ?_
      try simp only [pS]
      refine tk 16 (some 104) (.int .i64 (i:Int)) ?_
      try simp only [pS]
      refine tk 17 (some 105) (.pointer (some ⟨gs,i*3,none⟩)) ?_
      try simp only [pS]
      refine tk 18 (some 106) (.pointer (some ⟨gs,i*3+1,none⟩)) ?_
      try simp only [pS]
      refine tk 19 (some 107) (.int .i64 (s2:Int)) ?_
      try simp only [pS]
      refine tk 20 (some 108) (.pointer (some ⟨gp,s2*10,none⟩)) ?_
      try simp only [pS]
      refine tk 21 (some 109) (.agg #[.int .u64 (lowN (sz B.x.num)),.string (bigS (sz B.x.num)),.bool (ng B.x.num),.int .u64 (lowN (fm B.x)),.string (bigS (fm B.x)),.int .u64 (lowN (sz B.y.num)),.string (bigS (sz B.y.num)),.bool (ng B.y.num),.int .u64 (lowN (fm B.y)),.string (bigS (fm B.y))]) ?_
      try simp only [pS]
      refine tk 22 (some 110) (.pointer (some ⟨tb,3,none⟩)) ?_
      try simp only [pS]
      refine tk 23 (some 111) (.slice (some ⟨ga,0,none⟩) N cy) ?_
      try simp only [pS]
      refine tk 24 (some 112) (.int .i64 (k:Int)) ?_
      try simp only [pS]
      refine tk 25 (some 113) (.pointer (some ⟨ga,k*10,none⟩)) ?_
      try simp only [pS]
      refine tk 26 (some 114) (.agg #[.int .u64 (lowN (sz P.x.num)),.string (bigS (sz P.x.num)),.bool (ng P.x.num),.int .u64 (lowN (fm P.x)),.string (bigS (fm P.x)),.int .u64 (lowN (sz P.y.num)),.string (bigS (sz P.y.num)),.bool (ng P.y.num),.int .u64 (lowN (fm P.y)),.string (bigS (fm P.y))]) ?_
      try simp only [pS]
      refine rd 27 (fun K hK=>?_)
      go_simp
      (refine(HOn.out _).mono ?_;rintro e w1 ⟨rfl,hg1⟩;(try (with_reducible replace hg1:=Gr.of_drew hg1));have hsz1:=hg1.size;(try simp at hsz1);have hy1_0:mb<w1.heap.size:=(by omega);have hy1_1:tb<w1.heap.size:=(by omega);have hy1_2:gs<w1.heap.size:=(by omega);have hy1_3:gp<w1.heap.size:=(by omega);have hy1_4:ga<w1.heap.size:=(by omega);obtain ⟨hc1,hf1⟩:=hg1.cells;have HG1:=Lib.hid hg1;clear hg1)
      (try dsimp only)
      refine hK.out _ _ ?_ (fun hQ1=>?_)
      ·(first|exact trivial|((try dsimp only);simp [go_sem, *]))
      clear hK K hHeld
      try simp only [pS]
      refine tk 28 (some 116) (.bool b) ?_
      try simp only [pS]
      refine rd 29 (fun K hK=>?_)
      go_simp
      (try dsimp only)
      refine hK.out _ _ ?_ (fun hQ2=>?_)
      ·(first|exact trivial|((try dsimp only);simp [go_sem, *]))
      clear hK K hQ1
      try simp only [pS]
      refine wpAnyH_done (by kernel_rfl) ?_ _
      go_wp2
      go_roundw
      case rel=>exact⟨i+1,by omega,by rw [hnx.out];rfl,by go_num,Lib.hid (HQ.out.trans (Gr.mono (show Gr wr.heap.size wr _ from by(with_reducible (repeat' (first|exact Gr.refl _ _|refine Gr.drew ?_|refine Gr.setCell ?_ ?_ _|refine Gr.alloc ?_ ?_ _|refine Gr.trans ?_ (Gr.mono HG1.out ?_)|omega|(simp;done)|(simp;omega))))) hszq))⟩
      case measure=>simp [intOf];omega
     ·go_upto_region 20 with fail
      refine wp_region_held_drew (S:=(fun w'=>True)) (by kernel_rfl) ?_ (fun hHeld=>?_)
      ·simp [go_sem, *]
      refine tk 0 (some 88) (.bool true) ?_
      try simp only [pS]
      refine tk 1 (some 89) (.bool true) ?_
      try simp only [pS]
      refine tu 2 (some 90) (undef) ?_
      try simp only [pS]
      refine tu 3 (some 91) (undef) ?_
      try simp only [pS]
      refine tu 4 (some 92) (undef) ?_
      try simp only [pS]
      refine tu 5 (some 93) (undef) ?_
      try simp only [pS]
      refine tu 6 (some 94) (undef) ?_
      try simp only [pS]
      refine tu 7 (some 95) (undef) ?_
      try simp only [pS]
      refine tu 8 (some 96) (undef) ?_
      try simp only [pS]
      refine tu 9 (some 97) (undef) ?_
      try simp only [pS]
      refine tu 10 (some 98) (undef) ?_
      try simp only [pS]
      refine tu 11 (some 99) (undef) ?_
      try simp only [pS]
      refine tu 12 (some 100) (undef) ?_
      try simp only [pS]
      refine tu 13 (some 101) (undef) ?_
      try simp only [pS]
      refine tu 14 (some 102) (undef) ?_
      try simp only [pS]
      refine tu 15 (some 103) (undef) ?_
      try simp only [pS]
      refine tu 16 (some 104) (undef) ?_
      try simp only [pS]
      refine tu 17 (some 105) (undef) ?_
      try simp only [pS]
      refine tu 18 (some 106) (undef) ?_
      try simp only [pS]
      refine tu 19 (some 107) (undef) ?_
      try simp only [pS]
      refine tu 20 (some 108) (undef) ?_
      try simp only [pS]
      refine tu 21 (some 109) (undef) ?_
      try simp only [pS]
      refine tu 22 (some 110) (undef) ?_
      try simp only [pS]
      refine tu 23 (some 111) (undef) ?_
      try simp only [pS]
      refine tu 24 (some 112) (undef) ?_
      try simp only [pS]
      refine tu 25 (some 113) (undef) ?_
      try simp only [pS]
      refine tu 26 (some 114) (undef) ?_
      try simp only [pS]
      refine tu 27 (some 115) (undef) ?_
      try simp only [pS]
      refine tk 28 (some 116) (.bool true) ?_
      try simp only [pS]
      refine rd 29 (fun K hK=>?_)
      go_simp
      (try dsimp only)
      refine hK.out _ _ ?_ (fun hQ2=>?_)
      ·(first|exact trivial|((try dsimp only);simp [go_sem, *]))
      clear hK K hHeld
      try simp only [pS]
      refine wpAnyH_done (by kernel_rfl) ?_ _
      go_wp2
      go_roundw
      case rel=>exact⟨i+1,by omega,by rw [hnx.out];rfl,by go_num,Lib.hid (HQ.out.trans (by(with_reducible (repeat' (first|exact Gr.refl _ _|refine Gr.drew ?_|refine Gr.setCell ?_ ?_ _|refine Gr.alloc ?_ ?_ _|omega|(simp;done)|(simp;omega))))))⟩
      case measure=>simp [intOf];omega
    ·have hil:i=m.sides.length:=by omega
     subst hil
     have HB:=Lib.hid (show(m.sides.take m.sides.length).any (onS3 m P)=decide (k∈R)from by rw [List.take_length];exact HL.out)
     rw [HB.out]
     have hlk:=look_B (HM.out.gr HQ.out hMl) (k:=k) (by omega)
     obtain ⟨b,hb⟩:∃b,decide (k∈R)=b:=⟨_,rfl⟩
     rw [hb]at hlk ⊢
     clear hb HB
     go_wp2
     go_roundw
     case rel=>exact⟨k+1,by omega,by go_num,HQ⟩
     case measure=>simp [intOf];omega
  ·have hkl:k=N:=by omega
   subst hkl
   go_wp2_with fail
   refine Met.intro ?_
   exact HNX.out _ _ _ _ _ _ _ _ _ _ _ _ _ _ _ _ _ _ _ _ _ _ _ _ _ _ _ _ _ _ _ _ _ _ _ _ _ _ _ _ _ _ _ _ _ _ _ _ _ _ _ _ _ _ _ _ _ _ _ _ _ _ _ _ _ _ _ _ _ _ _ _ _ _ _ _ _ _ _ _ _ _ _ _ _ _ _ _ _ _ _ _ _ _ _ _ _ _ _ _ _ _ _ _ _ _ _ _ _ _ _ _ _ _ _ _ _ _ _ _ _ _ _ _ _ _ _ _ _ _ _ _ _ _ _ _ _ _ _ _ _ _ _ _ _ _ _ _ _ _ _ _ _ _ _ _ _ _ _ _ _ _ _ _ _ _ _ _ _ _ _ _ _ _ _ _ _ _ _ _ _ _ _ _ _ _ _ _ _ _ _ _ _ _ _ _ _ _ _ _ _ _ _ _ HQ.out
end Go.Proofs.YtmbmeggbojfecaaGreat
