/-
  Part 48 of the proof: LawU.
-/
import Derived.Test.YtmbmeggbojfecaaGreatJ47
set_option linter.unusedSimpArgs false
set_option linter.unusedVariables false
namespace Go.Proofs.YtmbmeggbojfecaaGreat
open Go.RowKit Gus Go.Maps
theorem sh_room {α:Type} {enc:α→List Value} {k g N:Nat} {t:TypeId} {w:World} {l:List α} (hk:∀x,(enc x).length=k) (hs:Sh w g t N) (hR:RC enc k w g l):l.length*k≤N:=by
 rcases Nat.lt_or_ge N (l.length*k)with h|h
 ·exfalso
  have hl:N<(l.flatMap enc).length:=by rw [flat_len hk];exact h
  have h1:=hR.flat hk N _ (List.getElem?_eq_getElem hl)
  obtain ⟨cur,hc,hsz⟩:=hs
  simp [World.cell?,hc,hsz]at h1
 ·exact h
def part3 (bs:List Nat) (l:List Tri) (i:Nat):List Tri:=(turn3 bs l).take i++l.drop i
theorem part3_len (bs:List Nat) (l:List Tri) (i:Nat) (hi:i≤l.length):(part3 bs l i).length=l.length:=by simp [part3,turn3_len];omega
theorem part3_zero (bs:List Nat) (l:List Tri):part3 bs l 0=l:=by simp [part3]
theorem part3_all (bs:List Nat) (l:List Tri):part3 bs l l.length=turn3 bs l:=by
 unfold part3
 rw [List.take_of_length_le (by rw [turn3_len];exact Nat.le_refl _),List.drop_length,List.append_nil]
theorem part3_get {bs:List Nat} {l:List Tri} {i:Nat} (hi:i<l.length):(part3 bs l i)[i]? =some l[i]:=by
 unfold part3
 rw [List.getElem?_append_right (by rw [List.length_take];omega),List.getElem?_drop]
 simp only [List.length_take,turn3_len,Nat.min_eq_left (Nat.le_of_lt hi)]
 rw [Nat.sub_self,Nat.add_zero,List.getElem?_eq_getElem hi]
theorem part3_succ {bs:List Nat} {l:List Tri} {i:Nat} (hi:i<l.length):part3 bs l (i+1)=(part3 bs l i).set i (rot3 l[i] (kOf bs i)):=by
 have hi2:i<(turn3 bs l).length:=by rw [turn3_len];exact hi
 have e:(turn3 bs l)[i]? =some (rot3 l[i] (kOf bs i)):=turn3_get (List.getElem?_eq_getElem hi)
 unfold part3
 rw [List.take_add_one,e,List.set_append_right _ _ (by rw [List.length_take];omega:((turn3 bs l).take i).length≤i)]
 simp only [List.length_take,turn3_len,Nat.min_eq_left (Nat.le_of_lt hi),Nat.sub_self]
 rw [List.drop_eq_getElem_cons hi,List.set_cons_zero]
 simp only [Option.toList_some,List.append_assoc,List.singleton_append]
theorem kOf_le {bs:List Nat} (h:∀b∈bs,b<256) (i:Nat):kOf bs i≤255:=by
 unfold kOf
 split
 ·omega
 ·rw [List.getD_eq_getElem?_getD]
  rcases hg:bs[i % bs.length]? with _|x
  ·simp
  ·have:=h x (List.mem_of_getElem? hg);simp;omega
theorem box_crn {w:World} {g:Nat} {t:Tri} (h:VB w g [.int .i64 (t.1:Int),.int .i64 (t.2.1:Int),.int .i64 (t.2.2:Int)]) {q:Nat} (hq:q<3):w.cell? ⟨g,q,none⟩=some (.int .i64 (crn t q:Int)):=by
 rcases(show q=0∨q=1∨q=2 by omega)with rfl|rfl|rfl
 ·exact h.c 0 _ rfl
 ·exact h.c 1 _ rfl
 ·exact h.c 2 _ rfl
theorem put_row {w:World} {g N i:Nat} {t:TypeId} {l:List Tri} (hR:RC triC 3 w g l) (hs:Sh w g t N) (hi:i<l.length) (y0 y1 y2:Nat):RC triC 3 (w.drew.setCells g (i*3) [.int .i64 (y0:Int),.int .i64 (y1:Int),.int .i64 (y2:Int)]) g (l.set i (y0,y1,y2)):=by
 have hR':RC triC 3 w.drew g l:=hR
 have hs':Sh w.drew g t N:=hs
 have:=hR'.put triC_len hs' (sh_room triC_len hs' hR') hi (y0,y1,y2) 0 [.int .i64 (y0:Int),.int .i64 (y1:Int),.int .i64 (y2:Int)] (by simp) (by simp)
 simpa using this
theorem kOf_at {bs:List Nat} {i r x:Nat} (h:bs.length≠0) (hr:i % bs.length=r) (hr1:r<bs.length) (hx:bs[r]=x):kOf bs i=x:=by
 unfold kOf
 rw [if_neg h,hr,List.getD_eq_getElem?_getD,List.getElem?_eq_getElem hr1,hx]
 rfl
noncomputable abbrev tlT (n:Nat):Code:=tailW n ((Tryz.f4).body.getD .skip)
variable {vv0 vv1 vv2 vv3 vv4 vv5 vv6 vv7 vv8 vv9 vv10 vv11 vv12 vv13 vv14 vv15 vv16 vv17 vv18 vv19 vv20 vv21 vv22 vv23 vv24 vv25 vv26 vv27 vv28 vv29 vv30 vv31 vv32 vv33 vv34 vv35 vv36 vv37 vv38 vv39 vv40 vv41 vv42 vv43 vv44 vv45 vv46 vv47 vv48 vv49 vv50 vv51 vv52 vv53 vv54 vv55 vv56 vv57 vv58 vv59 vv60 vv61 vv62 vv63 vv64 vv65 vv66 vv67 vv68 vv69 vv70 vv71 vv72 vv73 vv74 vv75 vv76 vv77 vv78 vv79 vv80 vv81 vv82 vv83 vv84 vv85 vv86 vv87 vv88 vv89 vv90 vv91 vv92 vv93 vv94 vv95 vv96 vv97 vv98 vv99 vv100 vv101 vv102 vv103 vv104 vv105 vv106 vv107 vv108 vv109 vv110 vv111 vv112 vv113 vv114 vv115 vv116 vv117 vv118 vv119 vv120 vv121 vv122 vv123 vv124 vv125 vv126 vv127 vv128 vv129 vv130 vv131 vv132 vv133 vv134 vv135 vv136 vv137 vv138 vv139 vv140 vv141 vv142 vv143 vv144 vv145 vv146 vv147 vv148 vv149 vv150 vv151 vv152 vv153 vv154 vv155 vv156 vv157 vv158 vv159 vv160 vv161 vv162 vv163 vv164 vv165 vv166 vv167 vv168 vv169 vv170 vv171 vv172 vv173 vv174 vv175 vv176 vv177 vv178 vv179 vv180 vv181 vv182 vv183 vv184 vv185 vv186 vv187 vv188 vv189 vv190 vv191 vv192 vv193 vv194 vv195 vv196 vv197 vv198 vv199 vv200 vv201 vv202 vv203 vv204:Value}
set_option maxRecDepth 20000 in
set_option maxHeartbeats 8000000 in
theorem turned_tail (w w7:World) (m:Msh) (o N E tb tc:Nat) (ax ay az ex ey ez:Option Addr) (cx cy cz gx gy gz:Nat) (fa:Option Addr) (fb:List Nat) (fc:Nat) (hg7:Gr w.heap.size w w7) (hF:BS w (.slice fa fb.length fc) fb) (hfb:∀b∈fb,b<256) (hT:m.tris.length≤1000) (hg:∀t∈m.tris,goodT m.pts.length t) (ho2:o=1∨o=2) (hNE:numM o m=N∧(esM m.tris).length=E) (hV:VB w7 tb [.int .i64 (o:Int),.int .i64 (N:Int),.slice ax m.tris.length cx,.slice ay N cy,.slice az E cz]) (hU:VB w7 tc [.int .i64 (o:Int),.int .i64 (N:Int),.slice ex m.tris.length gx,.slice ey N gy,.slice ez E gz])
  (hTM:TabM w7 0 o m (.slice ax m.tris.length cx) (.slice ay N cy) (.slice az E cz)) (hUM:TabM w7 0 o (turnM fb m) (.slice ex m.tris.length gx) (.slice ey N gy) (.slice ez E gz)) (hP:m.pts.length≤1000):
  Code.wp Tryz.prog (tlT 15) (bodyPost Tryz.prog Tryz.f4 (fun e w'=>e= .returned (.bool true)∧Below w.heap.size w w')) {tmps:= #[vv0,vv1,.slice fa fb.length fc,vv3,vv4,vv5,vv6,vv7,vv8,vv9,vv10,vv11,.pointer (some ⟨tb,0,none⟩),.int .i64 0,.pointer (some ⟨tc,0,none⟩),.int .i64 0,vv16,vv17,vv18,vv19,vv20,vv21,vv22,vv23,vv24,vv25,vv26,vv27,vv28,vv29,vv30,vv31,vv32,vv33,vv34,vv35,vv36,vv37,vv38,vv39,vv40,vv41,vv42,vv43,vv44,vv45,vv46,vv47,vv48,vv49,vv50,vv51,vv52,vv53,vv54,vv55,vv56,vv57,vv58,vv59,vv60,vv61,vv62,vv63,vv64,vv65,vv66,vv67,vv68,vv69,vv70,vv71,vv72,vv73,vv74,vv75,vv76,vv77,vv78,vv79,vv80,vv81,vv82,vv83,vv84,vv85,vv86,vv87,vv88,vv89,vv90,vv91,vv92,vv93,vv94,vv95,vv96,vv97,vv98,vv99,vv100,vv101,vv102,vv103,vv104,vv105,vv106,vv107,vv108,vv109,vv110,vv111,vv112,vv113,vv114,vv115,vv116,vv117,vv118,vv119,vv120,vv121,vv122,vv123,vv124,vv125,vv126,vv127,vv128,vv129,vv130,vv131,vv132,vv133,vv134,vv135,vv136,vv137,vv138,vv139,vv140,vv141,vv142,vv143,vv144,vv145,vv146,vv147,vv148,vv149,vv150,vv151,vv152,vv153,vv154,vv155,vv156,vv157,vv158,vv159,vv160,vv161,vv162,vv163,vv164,vv165,vv166,vv167,vv168,vv169,vv170,vv171,vv172,vv173,vv174,vv175,vv176,vv177,vv178,vv179,vv180,vv181,vv182,vv183,vv184,vv185,vv186,vv187,vv188,vv189,vv190,vv191,vv192,vv193,vv194,vv195,vv196,vv197,vv198,vv199,vv200,vv201,vv202,vv203,vv204],defers:= []} w7:=by
 have HFF:=Lib.hid hF
 have HFB:=Lib.hid hfb
 have hfl:=hF.len
 unfold maxLen at hfl
 have HGD:=Lib.hid hg
 have HO2:=Lib.hid ho2
 have HNE:=Lib.hid hNE
 have HG7:=Lib.hid hg7
 have HTV7:=Lib.hid hV
 have HUV:=Lib.hid hU
 have HTM7:=Lib.hid hTM
 have HUM:=Lib.hid hUM
 have htl7:=hV.lt
 have hul7:=hU.lt
 clear hF hfb hg ho2 hNE hg7 hV hU hTM hUM
 obtain ⟨t0,t1,t2,t3,t4,-⟩:=HTV7.out.five
 obtain ⟨s0,s1,s2,s3,s4,-⟩:=HUV.out.five
 have hNl:N=(atM o m).length:=by rw [←HNE.out.1,atM_len]
 have HAT1:=Lib.hid HTM7.out.2.1
 have HAT2:=Lib.hid (show SR pC 10 57 w7 0 (.slice ey N gy) (atM o m)from by have h:=HUM.out.2.1;rw [turn_at (bs:=fb) o HGD.out]at h;exact h)
 have HRW1:=Lib.hid HTM7.out.1
 have HRW2:=Lib.hid HUM.out.1
 clear HUM HTM7
 have hN5:N≤5000:=by have:=esM_len m.tris;rw [←HNE.out.1];unfold numM;split<;>omega
 have HX1:=Lib.hid t3
 have HX2:=Lib.hid s3
 have HY1:=Lib.hid t2
 have HY2:=Lib.hid s2
 refine wp_seq_k (fun K hK=>?_)
 go_wp2
 clear t0 t1 t2 t3 t4 s0 s1 s2 s3 s4 HTV7 HUV
 have HNL:=Lib.hid hNl
 clear hNl
 go_loopw [16] (fun s wr=> ∃j:Nat,j≤N∧s= .int .i64 j∧Hid (Gr w7.heap.size w7 wr)) (fun s _=>N - (intOf s).toNat)
 case atStart=>exact⟨0,Nat.zero_le _,rfl,Lib.hid (Gr.refl _ _)⟩
 case round=>
  obtain ⟨j,hj,rfl,HQ⟩:=hrel
  have hszq:=HQ.out.size
  have x1:=(HQ.out.cell (p:=⟨tb,3,none⟩) htl7).trans HX1.out
  have x2:=(HQ.out.cell (p:=⟨tc,3,none⟩) hul7).trans HX2.out
  have htbr:tb<wr.heap.size:=by omega
  have htcr:tc<wr.heap.size:=by omega
  by_cases hltj:j<N
  ·have qj:(j:Int)<(N:Int):=by omega
   have qj0:(0:Int)≤(j:Int):=by omega
   have hja:j<(atM o m).length:=by rw [←HNL.out];exact hltj
   obtain ⟨P,hP9⟩:∃P,(atM o m)[j]=P:=⟨_,rfl⟩
   obtain ⟨gp,cp',e4,_,_,_,hsp,hRp⟩:=HAT1.out.block (by intro e;rw [e]at hja;simp at hja)
   injection e4 with e4 _ e5
   subst e4 e5
   obtain ⟨gq,cq',e4,_,_,_,hsq,hRq⟩:=HAT2.out.block (by intro e;rw [e]at hja;simp at hja)
   injection e4 with e4 _ e5
   subst e4 e5
   have hgp:=hsp.lt
   have hgq:=hsq.lt
   obtain ⟨a0,a1,a2,a3,a4,a5,a6,a7,a8,a9⟩:=(hRp.gr HQ.out hgp).fPt hja hP9
   obtain ⟨b0,b1,b2,b3,b4,b5,b6,b7,b8,b9⟩:=(hRq.gr HQ.out hgq).fPt hja hP9
   clear hRp hRq hsp hsq hP9
   have hgpr:gp<wr.heap.size:=by omega
   have hgqr:gq<wr.heap.size:=by omega
   go_upto_region 20 with fail
   refine wp_region_held_drew (S:=(fun w'=>w'.cell? ⟨tb,3,none⟩=some (.slice (some ⟨gp,0,none⟩) N cy)∧w'.cell? ⟨tc,3,none⟩=some (.slice (some ⟨gq,0,none⟩) N gy)∧w'.cell? ⟨gp,j*10,none⟩=some (.int .u64 (lowN (sz P.x.num)))∧w'.cell? ⟨gp,j*10+1,none⟩=some (.string (bigS (sz P.x.num)))∧w'.cell? ⟨gp,j*10+2,none⟩=some (.bool (ng P.x.num))∧w'.cell? ⟨gp,j*10+3,none⟩=some (.int .u64 (lowN (fm P.x)))∧w'.cell? ⟨gp,j*10+4,none⟩=some (.string (bigS (fm P.x)))∧w'.cell? ⟨gp,j*10+5,none⟩=some (.int .u64 (lowN (sz P.y.num)))∧w'.cell? ⟨gp,j*10+6,none⟩=some (.string (bigS (sz P.y.num)))∧w'.cell? ⟨gp,j*10+7,none⟩=some (.bool (ng P.y.num))∧w'.cell? ⟨gp,j*10+8,none⟩=some (.int .u64 (lowN (fm P.y)))∧w'.cell? ⟨gp,j*10+9,none⟩=some (.string (bigS (fm P.y)))∧w'.cell? ⟨gq,j*10,none⟩=some (.int .u64 (lowN (sz P.x.num)))∧w'.cell? ⟨gq,j*10+1,none⟩=some (.string (bigS (sz P.x.num)))∧w'.cell? ⟨gq,j*10+2,none⟩=some (.bool (ng P.x.num))∧w'.cell? ⟨gq,j*10+3,none⟩=some (.int .u64 (lowN (fm P.x)))∧w'.cell? ⟨gq,j*10+4,none⟩=some (.string (bigS (fm P.x)))∧w'.cell? ⟨gq,j*10+5,none⟩=some (.int .u64 (lowN (sz P.y.num)))∧w'.cell? ⟨gq,j*10+6,none⟩=some (.string (bigS (sz P.y.num)))∧w'.cell? ⟨gq,j*10+7,none⟩=some (.bool (ng P.y.num))∧w'.cell? ⟨gq,j*10+8,none⟩=some (.int .u64 (lowN (fm P.y)))∧w'.cell? ⟨gq,j*10+9,none⟩=some (.string (bigS (fm P.y))))) (by kernel_rfl) ?_ (fun hHeld=>?_)
   ·simp [go_sem, *]
   refine tk 0 (some 125) (.pointer (some ⟨tb,3,none⟩)) ?_
   try simp only [pS]
   refine tk 1 (some 126) (.slice (some ⟨gp,0,none⟩) N cy) ?_
   try simp only [pS]
   refine tk 2 (some 127) (.int .i64 (j:Int)) ?_
   try simp only [pS]
   refine tk 3 (some 128) (.pointer (some ⟨gp,j*10,none⟩)) ?_
   try simp only [pS]
   refine tk 4 (some 129) (.agg #[.int .u64 (lowN (sz P.x.num)),.string (bigS (sz P.x.num)),.bool (ng P.x.num),.int .u64 (lowN (fm P.x)),.string (bigS (fm P.x)),.int .u64 (lowN (sz P.y.num)),.string (bigS (sz P.y.num)),.bool (ng P.y.num),.int .u64 (lowN (fm P.y)),.string (bigS (fm P.y))]) ?_
   try simp only [pS]
   refine tk 5 (some 130) (.pointer (some ⟨tc,3,none⟩)) ?_
   try simp only [pS]
   refine tk 6 (some 131) (.slice (some ⟨gq,0,none⟩) N gy) ?_
   try simp only [pS]
   refine tk 7 (some 132) (.int .i64 (j:Int)) ?_
   try simp only [pS]
   refine tk 8 (some 133) (.pointer (some ⟨gq,j*10,none⟩)) ?_
   try simp only [pS]
   refine tk 9 (some 134) (.agg #[.int .u64 (lowN (sz P.x.num)),.string (bigS (sz P.x.num)),.bool (ng P.x.num),.int .u64 (lowN (fm P.x)),.string (bigS (fm P.x)),.int .u64 (lowN (sz P.y.num)),.string (bigS (sz P.y.num)),.bool (ng P.y.num),.int .u64 (lowN (fm P.y)),.string (bigS (fm P.y))]) ?_
   try simp only [pS]
   refine tk 10 (some 135) (.bool false) ?_
   try simp only [pS]
   refine wpAnyH_done (by kernel_rfl) ?_ _
   go_wp2
   go_roundw
   case rel=>exact⟨j+1,by omega,by go_num,Lib.hid (HQ.out.trans (by(with_reducible (repeat' (first|exact Gr.refl _ _|refine Gr.drew ?_|refine Gr.setCell ?_ ?_ _|refine Gr.alloc ?_ ?_ _|omega|(simp;done)|(simp;omega))))))⟩
   case measure=>simp [intOf];omega
  ·have hjl:j=N:=by omega
   subst hjl
   clear x1 x2
   have x1:=(HQ.out.cell (p:=⟨tb,3,none⟩) htl7).trans HX1.out
   have y1:=(HQ.out.cell (p:=⟨tb,2,none⟩) htl7).trans HY1.out
   have y2:=(HQ.out.cell (p:=⟨tc,2,none⟩) hul7).trans HY2.out
   go_wp2
   clear x1
   go_loopw [17] (fun s wr=> ∃i:Nat,i≤m.tris.length∧s= .int .i64 i∧Hid (Gr w7.heap.size w7 wr)) (fun s _=>m.tris.length - (intOf s).toNat)
   case atStart=>exact⟨0,Nat.zero_le _,rfl,HQ⟩
   case round=>
    clear HQ hszq htbr htcr y1 y2
    obtain ⟨i,hi,rfl,HQ⟩:=hrel
    have hszq:=HQ.out.size
    have htbr:tb<wr.heap.size:=by omega
    have htcr:tc<wr.heap.size:=by omega
    have y1:=(HQ.out.cell (p:=⟨tb,2,none⟩) htl7).trans HY1.out
    have y2:=(HQ.out.cell (p:=⟨tc,2,none⟩) hul7).trans HY2.out
    by_cases hlti:i<m.tris.length
    ·have qi:(i:Int)<(m.tris.length:Int):=by omega
     have qi0:(0:Int)≤(i:Int):=by omega
     go_upto_if 145 with fail
     go_cut [18] (fun s wx=>s= .int .i64 (kOf fb i:Int)∧Gr wr.heap.size wr wx)
     case first=>
      by_cases hbs:fb.length=0
      ·have q2:decide (0<(fb.length:Int))=false:=decide_eq_false (by omega)
       have q3:¬0<fb.length:=by omega
       have hk8:Hid (kOf fb i=0):=Lib.hid (by unfold kOf;rw [if_pos hbs])
       clear hbs
       go_wp2_with fail
       go_meet
       exact⟨by rw [hk8.out];rfl,by(with_reducible (repeat' (first|exact Gr.refl _ _|refine Gr.drew ?_|refine Gr.setCell ?_ ?_ _|refine Gr.alloc ?_ ?_ _|omega|(simp;done)|(simp;omega))))⟩
      ·have q1:decide (0<(fb.length:Int))=true:=decide_eq_true (by omega)
       have q3:0<fb.length:=by omega
       obtain ⟨r,hr⟩:∃r,i % fb.length=r:=⟨_,rfl⟩
       have hr1:r<fb.length:=by rw [←hr];exact Nat.mod_lt _ (by omega)
       have hr2:(i:Int) % (fb.length:Int)=(r:Int):=by rw [←hr,Int.natCast_emod]
       have hr3:(i:Int).tmod (fb.length:Int)=(r:Int):=by rw [Int.tmod_eq_emod_of_nonneg (by omega)];exact hr2
       obtain ⟨x,hx⟩:∃x,fb[r]=x:=⟨_,rfl⟩
       have hx1:=HFB.out x (hx ▸ List.getElem_mem hr1)
       have hk9:=kOf_at hbs hr hr1 hx
       obtain ⟨gf,of,cap',e4,hgfl,hR⟩:=HFF.out.block (by intro e;rw [e]at q3;simp at q3)
       injection e4 with e4 _ e5
       subst e4 e5
       have u0:=hR r hr1
       rw [hx]at u0
       have u1:wr.cell? ⟨gf,of+r,none⟩=some (.int .u8 (x:Int)):=(HQ.out.cell (p:=⟨gf,of+r,none⟩) (by have:=HG7.out.size;show gf< _;omega)).trans ((HG7.out.cell (p:=⟨gf,of+r,none⟩) hgfl).trans u0)
       clear hR hr hx u0
       replace hk9:=Lib.hid hk9
       go_wp2_with fail
       go_meet
       exact⟨by rw [hk9.out],by(with_reducible (repeat' (first|exact Gr.refl _ _|refine Gr.drew ?_|refine Gr.setCell ?_ ?_ _|refine Gr.alloc ?_ ?_ _|omega|(simp;done)|(simp;omega))))⟩
     case rest=>
      obtain ⟨w8,hw8⟩:∃q,q=wc:=⟨_,rfl⟩
      subst hw8
      obtain ⟨rfl,hgx⟩:=hcut
      have HQ8:=Lib.hid (HQ.out.trans (hgx.mono hszq))
      have hszx:=hgx.size
      obtain ⟨k,hk⟩:∃k,kOf fb i=k:=⟨_,rfl⟩
      have hk255:k≤255:=by rw [←hk];exact kOf_le HFB.out i
      rw [hk]
      obtain ⟨t,ht⟩:∃t,m.tris[i]=t:=⟨_,rfl⟩
      have hlen1:i<(m.tris.map (rowM o m)).length:=by simpa using hlti
      have hlen2:i<((turnM fb m).tris.map (rowM o (turnM fb m))).length:=by rw [List.length_map];show i<(turn3 fb m.tris).length;rw [turn3_len];exact hlti
      obtain ⟨a',c',e4,hrow⟩:=HRW1.out.row
      injection e4 with e5 e6 e7
      obtain ⟨g1,e8,_,hg1,hall⟩:=hrow (by intro e;rw [e]at hlen1;simp at hlen1)
      rw [e8]at e5
      subst e5 e7
      clear e6 e8 hrow
      obtain ⟨a2,c2,e4,hrow⟩:=HRW2.out.row
      injection e4 with e5 e6 e7
      obtain ⟨g2,e8,_,hg2,hall2⟩:=hrow (by intro e;rw [e]at hlen2;simp at hlen2)
      rw [e8]at e5
      subst e5 e7
      clear e6 e8 hrow
      obtain ⟨r1,v1,_,hr1,ci⟩:=hall i hlen1
      obtain ⟨r2,v2,_,hr2,ck⟩:=hall2 i hlen2
      have eg1:(m.tris.map (rowM o m))[i]=rowM o m t:=by rw [List.getElem_map,ht]
      have eg2:((turnM fb m).tris.map (rowM o (turnM fb m)))[i]=rowM o (turnM fb m) (rot3 t k):=by
       rw [List.getElem_map]
       congr 1
       have h:=turn3_get (bs:=fb) (l:=m.tris) (i:=i) (t:=t) (by rw [List.getElem?_eq_getElem hlti,ht])
       rw [hk]at h
       exact(List.getElem?_eq_some_iff.1 h).2
      simp only [eg1]at v1 ci
      simp only [eg2]at v2 ck
      obtain ⟨hlR,hrowE⟩:=turn_row (bs:=fb) o HO2.out HGD.out t k
      have hR6:(rowM o m t).length≤6:=(rowT_len o m.pts.length (esM m.tris) t).2
      obtain ⟨R1,hR1⟩:∃q,rowM o m t=q:=⟨_,rfl⟩
      obtain ⟨R2,hR2⟩:∃q,rowM o (turnM fb m) (rot3 t k)=q:=⟨_,rfl⟩
      rw [hR1]at v1 hlR hR6
      rw [hR2]at v2 hlR
      simp only [hR1,hR2]at hrowE
      simp only [hR1]at ci
      simp only [hR2]at ck
      rw [hlR]at v2
      obtain ⟨n,hn⟩:∃n,R1.length=n:=⟨_,rfl⟩
      rw [hn]at v1 v2 hR6
      have HC1:=Lib.hid (show ∀a,a<n→w7.cell? ⟨r1,a,none⟩=some (.int .i64 (R1.getD a 0:Int))from fun a ha=>by rw [List.getD_eq_getElem?_getD,List.getElem?_eq_getElem (by omega)];exact ci a (by omega))
      have HC2:=Lib.hid (show ∀a,a<n→w7.cell? ⟨r2,a,none⟩=some (.int .i64 (R2.getD a 0:Int))from fun a ha=>by rw [List.getD_eq_getElem?_getD,List.getElem?_eq_getElem (by omega)];exact ck a (by omega))
      have HRE:=Lib.hid (show ∀j,j<n→j / 3*3+(j % 3+k) % 3<n∧R2.getD j 0=R1.getD (j / 3*3+(j % 3+k) % 3) 0 from fun j hj=>by have h:=hrowE j (by omega);rw [hn]at h;exact h)
      have HV1:=Lib.hid v1
      have HV2:=Lib.hid v2
      clear eg1 eg2 hlR hrowE hR1 hR2 ci ck hall hall2 ht hk hn v1 v2 y1 y2 hgx hlen1 hlen2
      have x1:=(HQ8.out.cell (p:=⟨tb,2,none⟩) htl7).trans HY1.out
      have x2:=(HQ8.out.cell (p:=⟨g1,i,none⟩) hg1).trans HV1.out
      have x3:=(HQ8.out.cell (p:=⟨tc,2,none⟩) hul7).trans HY2.out
      have x4:=(HQ8.out.cell (p:=⟨g2,i,none⟩) hg2).trans HV2.out
      go_wp2
      obtain ⟨wo,hwo⟩:∃q,q=wr:=⟨_,rfl⟩
      subst hwo
      go_loopw [19] (fun s wq=> ∃j:Nat,j≤n∧s= .int .i64 j∧Hid (Gr w7.heap.size w7 wq)) (fun s _=>n - (intOf s).toNat)
      case atStart=>exact⟨0,Nat.zero_le _,rfl,HQ8⟩
      case round=>
       clear HQ8 hszx hszq x1 x2 x3 x4 HQ htbr htcr
       obtain ⟨j,hj,rfl,HQ⟩:=hrel
       have hszq:=HQ.out.size
       have htbr:tb<wr.heap.size:=by omega
       have htcr:tc<wr.heap.size:=by omega
       have hg1r:g1<wr.heap.size:=by omega
       have hg2r:g2<wr.heap.size:=by omega
       have hr1r:r1<wr.heap.size:=by omega
       have hr2r:r2<wr.heap.size:=by omega
       have x1:=(HQ.out.cell (p:=⟨tb,2,none⟩) htl7).trans HY1.out
       have x2:=(HQ.out.cell (p:=⟨g1,i,none⟩) hg1).trans HV1.out
       have x3:=(HQ.out.cell (p:=⟨tc,2,none⟩) hul7).trans HY2.out
       have x4:=(HQ.out.cell (p:=⟨g2,i,none⟩) hg2).trans HV2.out
       by_cases hltj:j<n
       ·have qj:(j:Int)<(n:Int):=by omega
        have qj0:(0:Int)≤(j:Int):=by omega
        obtain ⟨hpn,hpe⟩:=HRE.out j hltj
        obtain ⟨d3,hd3⟩:∃q,j / 3=q:=⟨_,rfl⟩
        obtain ⟨jm,hjm⟩:∃q,j % 3=q:=⟨_,rfl⟩
        rw [hd3,hjm]at hpn hpe
        obtain ⟨d33,hd33⟩:∃q,d3*3=q:=⟨_,rfl⟩
        obtain ⟨jk,hjk⟩:∃q,jm+k=q:=⟨_,rfl⟩
        rw [hd33,hjk]at hpn hpe
        obtain ⟨qq,hqq⟩:∃q,jk % 3=q:=⟨_,rfl⟩
        rw [hqq]at hpn hpe
        obtain ⟨pp,hpp⟩:∃q,d33+qq=q:=⟨_,rfl⟩
        rw [hpp]at hpn hpe
        have z1:(j:Int) / 3=(d3:Int):=by omega
        have z2:(j:Int).tdiv 3=(d3:Int):=by rw [Int.tdiv_eq_ediv_of_nonneg (by omega)];exact z1
        have z3:IntKind.i64.wrap ((d3:Int)*3)=(d33:Int):=by rw [wrap64_id (by omega) (by omega)];omega
        have z4:(j:Int) % 3=(jm:Int):=by omega
        have z5:(j:Int).tmod 3=(jm:Int):=by rw [Int.tmod_eq_emod_of_nonneg (by omega)];exact z4
        have z6:IntKind.i64.wrap ((jm:Int)+(k:Int))=(jk:Int):=by rw [wrap64_id (by omega) (by omega)];omega
        have z7:(jk:Int) % 3=(qq:Int):=by omega
        have z8:(jk:Int).tmod 3=(qq:Int):=by rw [Int.tmod_eq_emod_of_nonneg (by omega)];exact z7
        have z9:IntKind.i64.wrap ((d33:Int)+(qq:Int))=(pp:Int):=by rw [wrap64_id (by omega) (by omega)];omega
        have zw:IntKind.i64.wrap (d3:Int)=(d3:Int):=wrap64_id (by omega) (by omega)
        have zp0:(0:Int)≤(pp:Int):=by omega
        have zp1:(pp:Int)<(n:Int):=by omega
        have zk0:(0:Int)≤(k:Int):=by omega
        obtain ⟨y,hy⟩:∃y,R2.getD j 0=y:=⟨_,rfl⟩
        have u1:=(HQ.out.cell (p:=⟨r2,j,none⟩) hr2).trans (HC2.out j hltj)
        have u2:=(HQ.out.cell (p:=⟨r1,pp,none⟩) hr1).trans (HC1.out pp hpn)
        rw [←hpe]at u2
        rw [hy]at u1 u2
        clear hy hpe hpn hd3 hjm hd33 hjk hqq hpp
        go_upto_region 31 with fail
        refine wp_region_held_drew (S:=(fun w'=>w'.cell? ⟨tc,2,none⟩=some (.slice (some ⟨g2,0,none⟩) m.tris.length gx)∧w'.cell? ⟨tb,2,none⟩=some (.slice (some ⟨g1,0,none⟩) m.tris.length cx)∧w'.cell? ⟨g2,i,none⟩=some (.slice (some ⟨r2,0,none⟩) n n)∧w'.cell? ⟨g1,i,none⟩=some (.slice (some ⟨r1,0,none⟩) n n)∧w'.cell? ⟨r2,j,none⟩=some (.int .i64 (y:Int))∧w'.cell? ⟨r1,pp,none⟩=some (.int .i64 (y:Int)))) (by kernel_rfl) ?_ (fun hHeld=>?_)
        ·simp [go_sem, *]
        refine tk 0 (some 164) (.pointer (some ⟨tc,2,none⟩)) ?_
        try simp only [pS]
        refine tk 1 (some 165) (.slice (some ⟨g2,0,none⟩) m.tris.length gx) ?_
        try simp only [pS]
        refine tk 2 (some 166) (.int .i64 (i:Int)) ?_
        try simp only [pS]
        refine tk 3 (some 167) (.pointer (some ⟨g2,i,none⟩)) ?_
        try simp only [pS]
        refine tk 4 (some 168) (.slice (some ⟨r2,0,none⟩) n n) ?_
        try simp only [pS]
        refine tk 5 (some 169) (.int .i64 (n:Int)) ?_
        try simp only [pS]
        refine tk 6 (some 170) (.pointer (some ⟨tb,2,none⟩)) ?_
        try simp only [pS]
        refine tk 7 (some 171) (.slice (some ⟨g1,0,none⟩) m.tris.length cx) ?_
        try simp only [pS]
        refine tk 8 (some 172) (.int .i64 (i:Int)) ?_
        try simp only [pS]
        refine tk 9 (some 173) (.pointer (some ⟨g1,i,none⟩)) ?_
        try simp only [pS]
        refine tk 10 (some 174) (.slice (some ⟨r1,0,none⟩) n n) ?_
        try simp only [pS]
        refine tk 11 (some 175) (.int .i64 (n:Int)) ?_
        try simp only [pS]
        refine tk 12 (some 176) (.bool false) ?_
        try simp only [pS]
        refine tk 13 (some 177) (.bool false) ?_
        try simp only [pS]
        refine tk 14 (some 178) (.pointer (some ⟨tc,2,none⟩)) ?_
        try simp only [pS]
        refine tk 15 (some 179) (.slice (some ⟨g2,0,none⟩) m.tris.length gx) ?_
        try simp only [pS]
        refine tk 16 (some 180) (.int .i64 (i:Int)) ?_
        try simp only [pS]
        refine tk 17 (some 181) (.pointer (some ⟨g2,i,none⟩)) ?_
        try simp only [pS]
        refine tk 18 (some 182) (.slice (some ⟨r2,0,none⟩) n n) ?_
        try simp only [pS]
        refine tk 19 (some 183) (.int .i64 (j:Int)) ?_
        try simp only [pS]
        refine tk 20 (some 184) (.pointer (some ⟨r2,j,none⟩)) ?_
        try simp only [pS]
        refine tk 21 (some 185) (.int .i64 (y:Int)) ?_
        try simp only [pS]
        refine tk 22 (some 186) (.pointer (some ⟨tb,2,none⟩)) ?_
        try simp only [pS]
        refine tk 23 (some 187) (.slice (some ⟨g1,0,none⟩) m.tris.length cx) ?_
        try simp only [pS]
        refine tk 24 (some 188) (.int .i64 (i:Int)) ?_
        try simp only [pS]
        refine tk 25 (some 189) (.pointer (some ⟨g1,i,none⟩)) ?_
        try simp only [pS]
        refine tk 26 (some 190) (.slice (some ⟨r1,0,none⟩) n n) ?_
        try simp only [pS]
        refine tk 27 (some 191) (.int .i64 (j:Int)) ?_
        try simp only [pS]
        refine tk 28 (some 192) (.int .i64 (d3:Int)) ?_
        try simp only [pS]
        refine tk 29 (some 193) (.int .i64 (d33:Int)) ?_
        try simp only [pS]
        refine tk 30 (some 194) (.int .i64 (j:Int)) ?_
        try simp only [pS]
        refine tk 31 (some 195) (.int .i64 (jm:Int)) ?_
        try simp only [pS]
        refine tk 32 (some 196) (.int .i64 (k:Int)) ?_
        try simp only [pS]
        refine tk 33 (some 197) (.int .i64 (jk:Int)) ?_
        try simp only [pS]
        refine tk 34 (some 198) (.int .i64 (qq:Int)) ?_
        try simp only [pS]
        refine tk 35 (some 199) (.int .i64 (pp:Int)) ?_
        try simp only [pS]
        refine tk 36 (some 200) (.pointer (some ⟨r1,pp,none⟩)) ?_
        try simp only [pS]
        refine tk 37 (some 201) (.int .i64 (y:Int)) ?_
        try simp only [pS]
        refine tk 38 (some 202) (.bool false) ?_
        try simp only [pS]
        refine tk 39 (some 203) (.bool false) ?_
        try simp only [pS]
        refine wpAnyH_done (by kernel_rfl) ?_ _
        clear z1 z2 z3 z4 z5 z6 z7 z8 z9 zw
        go_wp2
        go_roundw
        case rel=>exact⟨j+1,by omega,by go_num,Lib.hid (HQ.out.trans (by(with_reducible (repeat' (first|exact Gr.refl _ _|refine Gr.drew ?_|refine Gr.setCell ?_ ?_ _|refine Gr.alloc ?_ ?_ _|omega|(simp;done)|(simp;omega))))))⟩
        case measure=>simp [intOf];omega
       ·have hjl:j=n:=by omega
        subst hjl
        go_wp2
        go_roundw
        case rel=>exact⟨i+1,by omega,by go_num,HQ⟩
        case measure=>simp [intOf];omega
    ·have hil:i=m.tris.length:=by omega
     subst hil
     go_wp2_with fail
     refine(law_lives _).mono ?_
     rintro e w9 ⟨rfl,hb9⟩
     have HB9:=Lib.hid hb9
     clear hb9
     go_wp2
     go_ret
     exact⟨rfl,((HG7.out.trans (HQ.out.mono (by have:=HG7.out.size;omega))).below.trans ((show Gr w.heap.size wr _ from by(with_reducible (repeat' (first|exact Gr.refl _ _|refine Gr.drew ?_|refine Gr.setCell ?_ ?_ _|refine Gr.alloc ?_ ?_ _|omega|(simp;done)|(simp;omega))))).below.trans (HB9.out.mono (by(try simp);have:=HG7.out.size;omega))))⟩
end Go.Proofs.YtmbmeggbojfecaaGreat
