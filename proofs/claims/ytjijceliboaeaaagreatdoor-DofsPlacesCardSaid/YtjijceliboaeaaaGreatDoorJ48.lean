/-
  Part 48 of the proof: PlaM PlaV FinP.
-/
import Derived.Test.YtjijceliboaeaaaGreatDoorJ47
import Derived.Test.YtjijceliboaeaaaGreatDoorJ45
set_option linter.unusedSimpArgs false
set_option linter.unusedVariables false
namespace Go.Proofs.YtjijceliboaeaaaGreatDoor
open Go.RowKit Gus Go.Maps
def seenS (N:Nat) (S:List Nat):List Bool:=(List.range N).map fun k=>decide (k∈S)
theorem seenS_nil (N:Nat):seenS N []=List.replicate N false:=by
 unfold seenS
 rw [List.eq_replicate_iff]
 refine⟨by simp,fun b hb=>?_⟩
 obtain ⟨k,_,rfl⟩:=List.mem_map.1 hb
 simp
theorem seenS_all {N:Nat} {S:List Nat} (h:∀k,k<N→k∈S):seenS N S=List.replicate N true:=by
 unfold seenS
 rw [List.eq_replicate_iff]
 refine⟨by simp,fun b hb=>?_⟩
 obtain ⟨k,hk,rfl⟩:=List.mem_map.1 hb
 exact decide_eq_true (h k (List.mem_range.1 hk))
theorem seenS_len (N:Nat) (S:List Nat):(seenS N S).length=N:=by simp [seenS]
theorem seenS_set {N:Nat} {S:List Nat} {k:Nat}:(seenS N S).set k true=seenS N (S++ [k]):=by
 refine List.ext_getElem (by simp [seenS]) (fun i h1 h2=>?_)
 rw [List.getElem_set]
 simp only [seenS,List.getElem_map,List.getElem_range,List.mem_append,List.mem_singleton]
 by_cases e:k=i
 ·subst e;simp
 ·rw [if_neg e]
  have:¬i=k:=fun h=>e h.symm
  simp [this]
def rowsTo (o:Nat) (m:Msh) (i:Nat):List Nat:=(m.tris.take i).flatMap (rowM o m)
theorem rowsTo_zero (o:Nat) (m:Msh):rowsTo o m 0= []:=by simp [rowsTo]
theorem rowsTo_succ {o:Nat} {m:Msh} {i:Nat} (h:i<m.tris.length) {t:Tri} (ht:m.tris[i]=t):rowsTo o m (i+1)=rowsTo o m i++rowM o m t:=by
 unfold rowsTo
 rw [List.take_add_one,List.getElem?_eq_getElem h,ht]
 simp
theorem mem_rowsTo {o:Nat} {m:Msh} {k:Nat} (h:∃t∈m.tris,k∈rowM o m t):k∈rowsTo o m m.tris.length:=by
 unfold rowsTo
 rw [List.take_length]
 exact List.mem_flatMap.2 h
theorem SdW.gr {w w':World} (h:SdW w) (hg:Gr w.heap.size w w'):SdW w':=by
 obtain ⟨h0,h1,h2,h3,h4,h5,hl⟩:=h
 exact⟨(hg.cell (p:=⟨0,0,none⟩) hl).trans h0,(hg.cell (p:=⟨0,1,none⟩) hl).trans h1,(hg.cell (p:=⟨0,2,none⟩) hl).trans h2,(hg.cell (p:=⟨0,3,none⟩) hl).trans h3,(hg.cell (p:=⟨0,4,none⟩) hl).trans h4,(hg.cell (p:=⟨0,5,none⟩) hl).trans h5,Nat.lt_of_lt_of_le hl hg.size⟩
theorem rowM_len {o:Nat} (ho:o=1∨o=2) (m:Msh) (t:Tri):(rowM o m t).length=3*o:=by
 rcases ho with rfl|rfl<;>rfl
variable {vv0 vv1 vv2 vv3 vv4 vv5 vv6 vv7 vv8 vv9 vv10 vv11 vv12 vv13 vv14 vv15 vv16 vv17 vv18 vv19 vv20 vv21 vv22 vv23 vv24 vv25 vv26 vv27 vv28 vv29 vv30 vv31 vv32 vv33 vv34 vv35 vv36 vv37 vv38 vv39 vv40 vv41 vv42 vv43 vv44 vv45 vv46 vv47 vv48 vv49 vv50 vv51 vv52 vv53 vv54 vv55 vv56 vv57 vv58 vv59 vv60 vv61 vv62 vv63 vv64 vv65 vv66 vv67 vv68 vv69 vv70 vv71 vv72 vv73 vv74 vv75 vv76 vv77 vv78 vv79 vv80 vv81 vv82 vv83 vv84 vv85 vv86 vv87 vv88 vv89 vv90 vv91 vv92 vv93 vv94 vv95 vv96 vv97 vv98 vv99 vv100 vv101 vv102 vv103 vv104 vv105 vv106 vv107 vv108 vv109 vv110 vv111 vv112 vv113 vv114 vv115 vv116 vv117 vv118 vv119 vv120 vv121 vv122 vv123 vv124 vv125 vv126 vv127 vv128 vv129 vv130 vv131 vv132 vv133 vv134 vv135 vv136 vv137 vv138 vv139 vv140 vv141 vv142 vv143 vv144 vv145 vv146 vv147 vv148 vv149 vv150 vv151 vv152 vv153 vv154 vv155 vv156 vv157 vv158 vv159 vv160 vv161 vv162 vv163 vv164 vv165 vv166 vv167 vv168 vv169 vv170 vv171 vv172 vv173 vv174 vv175 vv176 vv177 vv178 vv179 vv180 vv181 vv182 vv183 vv184 vv185 vv186 vv187 vv188:Value}
set_option maxRecDepth 20000 in
set_option maxHeartbeats 8000000 in
theorem pl9 (w W0 W:World) (two:Bool) (m:Msh) (o N E mb tb sb mp:Nat) (ho:o=ordN two) (ap at_ as_ ax ay az:Option Addr) (cp ct cs cx cy cz:Nat) (hb:Below w.heap.size w W0) (hV:VB W0 mb [.slice ap m.pts.length cp,.slice at_ m.tris.length ct,.slice as_ m.sides.length cs]) (hT:VB W0 tb [.int .i64 (o:Int),.int .i64 (N:Int),.slice ax m.tris.length cx,.slice ay N cy,.slice az E cz]) (hMS:MS W0 0 (.slice ap m.pts.length cp) (.slice at_ m.tris.length ct) (.slice as_ m.sides.length cs) m) (hTM:TabM W0 0 o m (.slice ax m.tris.length cx) (.slice ay N cy) (.slice az E cz)) (hSd:SdW W0) (hg0:Gr W0.heap.size W0 W) (hNE:numM o m=N∧(esM m.tris).length=E) (hTl:m.tris.length≤1000) (hPl:m.pts.length≤1000) (hU:VB W sb ((seenS N []).map Value.bool)) (hM:MIQ W mp []) (hsb:W0.heap.size≤sb) (hmp:W0.heap.size≤mp) (hsm:sb≠mp) (hnd:(atM o m).Nodup) (hat:∀p∈atM o m,hp p≤1000000000)
  (hrow:∀t∈m.tris,∀q k:Nat,(rowM o m t)[q]? =some k→k<numM o m∧(atM o m)[k]? =some (atP (m.pts.getD t.1 ⟨0,0⟩) (m.pts.getD t.2.1 ⟨0,0⟩) (m.pts.getD t.2.2 ⟨0,0⟩) (nodeW q))) (hall:∀k,k<numM o m→∃t∈m.tris,k∈rowM o m t) (hg:∀t∈m.tris,goodT m.pts.length t) (hpt:∀p∈m.pts,hp p≤1000000):
  Code.wp Tryz.prog (tlP 9) (bodyPost Tryz.prog Tryz.f3 (fun e w'=>e= .returned (.bool true)∧Below w.heap.size w w')) {tmps:= #[vv0,.bool two,vv2,vv3,vv4,.pointer (some ⟨mb,0,none⟩),.pointer (some ⟨tb,0,none⟩),vv7,.slice (some ⟨sb,0,none⟩) N N,.map (some mp),vv10,vv11,vv12,vv13,vv14,vv15,vv16,vv17,vv18,vv19,vv20,vv21,vv22,vv23,vv24,vv25,vv26,vv27,vv28,vv29,vv30,vv31,vv32,vv33,vv34,vv35,vv36,vv37,vv38,vv39,vv40,vv41,vv42,vv43,vv44,vv45,vv46,vv47,vv48,vv49,vv50,vv51,vv52,vv53,vv54,vv55,vv56,vv57,vv58,vv59,vv60,vv61,vv62,vv63,vv64,vv65,vv66,vv67,vv68,vv69,vv70,vv71,vv72,vv73,vv74,vv75,vv76,vv77,vv78,vv79,vv80,vv81,vv82,vv83,vv84,vv85,vv86,vv87,vv88,vv89,vv90,vv91,vv92,vv93,vv94,vv95,vv96,vv97,vv98,vv99,vv100,vv101,vv102,vv103,vv104,vv105,vv106,vv107,vv108,vv109,vv110,vv111,vv112,vv113,vv114,vv115,vv116,vv117,vv118,vv119,vv120,vv121,vv122,vv123,vv124,vv125,vv126,vv127,vv128,vv129,vv130,vv131,vv132,vv133,vv134,vv135,vv136,vv137,vv138,vv139,vv140,vv141,vv142,vv143,vv144,vv145,vv146,vv147,vv148,vv149,vv150,vv151,vv152,vv153,vv154,vv155,vv156,vv157,vv158,vv159,vv160,vv161,vv162,vv163,vv164,vv165,vv166,vv167,vv168,vv169,vv170,vv171,vv172,vv173,vv174,vv175,vv176,vv177,vv178,vv179,vv180,vv181,vv182,vv183,vv184,vv185,vv186,vv187,vv188],defers:= []} W:=by
 have ho2:o=1∨o=2:=by rw [ho];unfold ordN;cases two<;>simp
 have hN5:N≤5000:=by have:=esM_len m.tris;rw [←hNE.1];unfold numM;split<;>omega
 have HO1:=Lib.hid ho
 have HO2:=Lib.hid ho2
 have HBW:=Lib.hid hb
 have HV:=Lib.hid hV
 have HT:=Lib.hid hT
 have HMS:=Lib.hid hMS
 have HTM:=Lib.hid hTM
 have HSD:=Lib.hid hSd
 have HNE:=Lib.hid hNE
 have HU0:=Lib.hid hU
 have HM0:=Lib.hid hM
 have HG0:=Lib.hid hg0
 have HND:=Lib.hid hnd
 have HAT:=Lib.hid hat
 have HROW:=Lib.hid hrow
 have HALL:=Lib.hid hall
 have HGD:=Lib.hid hg
 have HPT:=Lib.hid hpt
 have HOR:=Lib.hid (fun W=>ho ▸ law_Order two W)
 have hvl:=hV.lt
 have htl:=hT.lt
 have hs1:=hb.size
 have X0:=Lib.hid (hV.c 0 _ rfl)
 have X1:=Lib.hid (hV.c 1 _ rfl)
 have X2:=Lib.hid (hV.c 2 _ rfl)
 have Y1:=Lib.hid (hT.c 1 _ rfl)
 have Y2:=Lib.hid (hT.c 2 _ rfl)
 have Y3:=Lib.hid (hT.c 3 _ rfl)
 clear ho ho2 hb hV hT hMS hTM hSd hNE hU hM hg0 hnd hat hrow hall hg hpt
 obtain ⟨o3,ho3⟩:∃q,3*o=q:=⟨_,rfl⟩
 have HMANY:=Lib.hid (show ∀W,Calls Tryz.prog 9 #[.int .i64 (o:Int)] W (Ret W (.int .i64 (o3:Int)))from fun W=>by rw [←ho3];exact sh_Many o W HO2.out)
 have ho36:o3≤6:=by have:=HO2.out;omega
 have HO3:=Lib.hid ho3
 clear ho3
 refine wp_seq_k (fun K1 hK1=>?_)
 have hK19:∀a w',Met (fun a w'=>Code.wp Tryz.prog (tlP 23) (bodyPost Tryz.prog Tryz.f3 (fun e w'=>e= .returned (.bool true)∧Below w.heap.size w w')) a w') a w'→K1 a w':=fun a w' h=>hK1 a w' h
 clear hK1
 go_wp2
 go_loopw [10] (fun s wr=> ∃i:Nat,i≤m.tris.length∧s= .int .i64 i∧Hid (VB wr sb ((seenS N (rowsTo o m i)).map Value.bool))∧Hid (MIQ wr mp [])∧Hid (Gr W0.heap.size W0 wr)) (fun s _=>m.tris.length - (intOf s).toNat)
 case atStart=>exact⟨0,Nat.zero_le _,rfl,Lib.hid (by rw [rowsTo_zero];exact HU0.out),HM0,HG0⟩
 case round=>
  clear HU0 HM0 HG0
  obtain ⟨i,hi,rfl,HU,HM,HQ⟩:=hrel
  have hszq:=HQ.out.size
  have hul:=HU.out.lt
  have hml:=HM.out.lt
  have y2:=(HQ.out.cell (p:=⟨tb,2,none⟩) htl).trans Y2.out
  have htbr:tb<wr.heap.size:=by omega
  have hmbr:mb<wr.heap.size:=by omega
  by_cases hlt:i<m.tris.length
  ·have qi:(i:Int)<(m.tris.length:Int):=by omega
   have qi0:(0:Int)≤(i:Int):=by omega
   obtain ⟨t,ht⟩:∃t,m.tris[i]=t:=⟨_,rfl⟩
   have htm:t∈m.tris:=ht ▸ List.getElem_mem hlt
   have hgt:=HGD.out t htm
   unfold goodT at hgt
   obtain ⟨t1,t2,t3,-⟩:=hgt
   obtain ⟨A,hA9⟩:∃A,m.pts[t.1]=A:=⟨_,rfl⟩
   obtain ⟨B,hB9⟩:∃B,m.pts[t.2.1]=B:=⟨_,rfl⟩
   obtain ⟨C,hC9⟩:∃C,m.pts[t.2.2]=C:=⟨_,rfl⟩
   have HC:=Lib.hid (fun (W:World) (hW:Gr W0.heap.size W0 W)=>ms_Corners m _ _ _ i t A B C W (HMS.out.gr hW) hlt ht t1 t2 t3 hA9 hB9 hC9)
   have HPA:=HPT.out A (hA9 ▸ List.getElem_mem t1)
   have HPB:=HPT.out B (hB9 ▸ List.getElem_mem t2)
   have HPC:=HPT.out C (hC9 ▸ List.getElem_mem t3)
   have HR:=Lib.hid (show ∀q k:Nat,(rowM o m t)[q]? =some k→k<N∧(atM o m)[k]? =some (atP A B C (nodeW q))from fun q k hq=>by
    have h:=HROW.out t htm q k hq
    rw [HNE.out.1,List.getD_eq_getElem?_getD,List.getD_eq_getElem?_getD,List.getD_eq_getElem?_getD,List.getElem?_eq_getElem t1,List.getElem?_eq_getElem t2,List.getElem?_eq_getElem t3,hA9,hB9,hC9]at h
    exact h)
   have HNX:=Lib.hid (rowsTo_succ (o:=o) hlt ht)
   have hlen1:i<(m.tris.map (rowM o m)).length:=by simpa using hlt
   obtain ⟨a',c',e4,hrow⟩:=HTM.out.1.row
   injection e4 with e5 e6 e7
   obtain ⟨g1,e8,_,hg1,hall⟩:=hrow (by intro e;rw [e]at hlen1;simp at hlen1)
   rw [e8]at e5
   subst e5 e7
   clear e6 e8 hrow
   obtain ⟨r1,v1,_,hr1,ci⟩:=hall i hlen1
   have eg1:(m.tris.map (rowM o m))[i]=rowM o m t:=by rw [List.getElem_map,ht]
   simp only [eg1]at v1 ci
   obtain ⟨R,hR⟩:∃q,rowM o m t=q:=⟨_,rfl⟩
   have hRl:R.length=o3:=by rw [←hR,←HO3.out];exact rowM_len HO2.out m t
   rw [hR]at HR HNX v1
   simp only [hR]at ci
   rw [hRl]at v1
   have HCI:=Lib.hid (show ∀a (ha:a<R.length),W0.cell? ⟨r1,a,none⟩=some (.int .i64 (R[a]:Int))from fun a ha=>ci a ha)
   have HV1:=Lib.hid v1
   clear hA9 hB9 hC9 eg1 ci hall hlen1 ht v1 htm t1 t2 t3 hR
   have x0:=(HQ.out.cell (p:=⟨mb,0,none⟩) hvl).trans X0.out
   have x1:=(HQ.out.cell (p:=⟨mb,1,none⟩) hvl).trans X1.out
   have x2:=(HQ.out.cell (p:=⟨mb,2,none⟩) hvl).trans X2.out
   go_upto_region 12 with fail
   go_cut [11,12,13] (fun s11 s12 s13 wx=> ∃b1 b2 b3:Nat,s11= .pointer (some ⟨b1,0,none⟩)∧s12= .pointer (some ⟨b2,0,none⟩)∧s13= .pointer (some ⟨b3,0,none⟩)∧VB wx b1 [.int .u64 (lowN (sz A.x.num)),.string (bigS (sz A.x.num)),.bool (ng A.x.num),.int .u64 (lowN (fm A.x)),.string (bigS (fm A.x)),.int .u64 (lowN (sz A.y.num)),.string (bigS (sz A.y.num)),.bool (ng A.y.num),.int .u64 (lowN (fm A.y)),.string (bigS (fm A.y))]∧VB wx b2 [.int .u64 (lowN (sz B.x.num)),.string (bigS (sz B.x.num)),.bool (ng B.x.num),.int .u64 (lowN (fm B.x)),.string (bigS (fm B.x)),.int .u64 (lowN (sz B.y.num)),.string (bigS (sz B.y.num)),.bool (ng B.y.num),.int .u64 (lowN (fm B.y)),.string (bigS (fm B.y))]∧VB wx b3 [.int .u64 (lowN (sz C.x.num)),.string (bigS (sz C.x.num)),.bool (ng C.x.num),.int .u64 (lowN (fm C.x)),.string (bigS (fm C.x)),.int .u64 (lowN (sz C.y.num)),.string (bigS (sz C.y.num)),.bool (ng C.y.num),.int .u64 (lowN (fm C.y)),.string (bigS (fm C.y))]∧wr.heap.size≤b1∧wr.heap.size≤b2∧wr.heap.size≤b3∧Gr wr.heap.size wr wx)
   case first=>
    go_wp2_with fail
    refine(HC.out _ (by(with_reducible (repeat' (first|exact Gr.refl _ _|refine Gr.drew ?_|refine Gr.setCell ?_ ?_ _|refine Gr.alloc ?_ ?_ _|refine Gr.trans ?_ (Gr.mono HQ.out ?_)|omega|(simp;done)|(simp;omega)))))).mono ?_
    rintro e w1 ⟨rfl,hg1'⟩
    have hsz1:=hg1'.size
    have HG1:=Lib.hid hg1'
    clear hg1'
    go_wp2_with fail
    go_meet
    exact⟨w1.heap.size,w1.heap.size+1,w1.heap.size+1+1,rfl,rfl,rfl,by(with_reducible (repeat' (first|(refine VB.new' ?_;exact(by first|omega|(simp;done)|(simp;omega)))|apply VB.put2|apply VB.put3|apply VB.put5|refine VB.drew ?_|refine VB.far ?_ ?_ _|refine VB.alloc ?_ _|omega|(simp;done)|(simp;omega)))),by(with_reducible (repeat' (first|(refine VB.new' ?_;exact(by first|omega|(simp;done)|(simp;omega)))|apply VB.put2|apply VB.put3|apply VB.put5|refine VB.drew ?_|refine VB.far ?_ ?_ _|refine VB.alloc ?_ _|omega|(simp;done)|(simp;omega)))),by(with_reducible (repeat' (first|(refine VB.new' ?_;exact(by first|omega|(simp;done)|(simp;omega)))|apply VB.put2|apply VB.put3|apply VB.put5|refine VB.drew ?_|refine VB.far ?_ ?_ _|refine VB.alloc ?_ _|omega|(simp;done)|(simp;omega)))),by omega,by omega,by omega,by(with_reducible (repeat' (first|exact Gr.refl _ _|refine Gr.drew ?_|refine Gr.setCell ?_ ?_ _|refine Gr.alloc ?_ ?_ _|refine Gr.trans ?_ (Gr.mono HG1.out ?_)|omega|(simp;done)|(simp;omega))))⟩
   case rest=>
    obtain ⟨wx,hwx⟩:∃q,q=wc:=⟨_,rfl⟩
    subst hwx
    obtain ⟨b1,b2,b3,rfl,rfl,rfl,hVA,hVB,hVC,hl1,hl2,hl3,hgx⟩:=hcut
    have hszx:=hgx.size
    have HQX:=Lib.hid (HQ.out.trans (hgx.mono hszq))
    have HUX:=Lib.hid (HU.out.gr hgx hul)
    have HMX:=Lib.hid (HM.out.gr hgx hml)
    have HVA:=Lib.hid hVA
    have HVB:=Lib.hid hVB
    have HVC:=Lib.hid hVC
    have hb1:=hVA.lt
    have hb2:=hVB.lt
    have hb3:=hVC.lt
    clear x0 x1 x2 y2 hgx HU HM hVA hVB hVC HC
    have y2:=(HQX.out.cell (p:=⟨tb,2,none⟩) htl).trans Y2.out
    have z1:=(HQX.out.cell (p:=⟨g1,i,none⟩) hg1).trans HV1.out
    have htbx:tb<wx.heap.size:=by omega
    have hg1x:g1<wx.heap.size:=by omega
    go_upto_region 13 with fail
    refine wp_region_held_drew (S:=(fun w'=>w'.cell? ⟨tb,2,none⟩=some (.slice (some ⟨g1,0,none⟩) m.tris.length cx)∧w'.cell? ⟨g1,i,none⟩=some (.slice (some ⟨r1,0,none⟩) o3 o3))) (by kernel_rfl) ?_ (fun hHeld=>?_)
    ·simp [go_sem, *]
    refine tk 0 (some 99) (.pointer (some ⟨tb,2,none⟩)) ?_
    try simp only [pS]
    refine tk 1 (some 100) (.slice (some ⟨g1,0,none⟩) m.tris.length cx) ?_
    try simp only [pS]
    refine tk 2 (some 101) (.int .i64 (i:Int)) ?_
    try simp only [pS]
    refine tk 3 (some 102) (.pointer (some ⟨g1,i,none⟩)) ?_
    try simp only [pS]
    refine tk 4 (some 103) (.slice (some ⟨r1,0,none⟩) o3 o3) ?_
    try simp only [pS]
    refine tk 5 (some 104) (.int .i64 (o3:Int)) ?_
    try simp only [pS]
    refine tk 6 (some 105) (.bool two) ?_
    try simp only [pS]
    refine rd 7 (fun K hK=>?_)
    go_simp
    (refine(HOR.out _).mono ?_;rintro e w3 ⟨rfl,hg3⟩;(try (with_reducible replace hg3:=Gr.of_drew hg3));have hsz3:=hg3.size;(try simp at hsz3);have hy3_0:tb<w3.heap.size:=(by omega);have hy3_1:g1<w3.heap.size:=(by omega);obtain ⟨hc3,hf3⟩:=hg3.cells;have HG3:=Lib.hid hg3;clear hg3)
    (try dsimp only)
    refine hK.out _ _ ?_ (fun hQ1=>?_)
    ·(first|exact trivial|((try dsimp only);simp [go_sem, *]))
    clear hK K hHeld
    try simp only [pS]
    refine rd 8 (fun K hK=>?_)
    go_simp
    (refine(HMANY.out _).mono ?_;rintro e w4 ⟨rfl,hg4⟩;(try (with_reducible replace hg4:=Gr.of_drew hg4));have hsz4:=hg4.size;(try simp at hsz4);have hy4_0:tb<w4.heap.size:=(by omega);have hy4_1:g1<w4.heap.size:=(by omega);obtain ⟨hc4,hf4⟩:=hg4.cells;have HG4:=Lib.hid hg4;clear hg4)
    (try dsimp only)
    refine hK.out _ _ ?_ (fun hQ2=>?_)
    ·(first|exact trivial|((try dsimp only);simp [go_sem, *]))
    clear hK K hQ1
    try simp only [pS]
    refine tk 9 (some 108) (.bool false) ?_
    try simp only [pS]
    refine wpAnyH_done (by kernel_rfl) ?_ _
    have HQ4:=Lib.hid (show Gr wx.heap.size wx w4 from by(with_reducible (repeat' (first|exact Gr.refl _ _|refine Gr.drew ?_|refine Gr.setCell ?_ ?_ _|refine Gr.alloc ?_ ?_ _|refine Gr.trans ?_ (Gr.mono HG4.out ?_)|refine Gr.trans ?_ (Gr.mono HG3.out ?_)|omega|(simp;done)|(simp;omega)))))
    have HQ5:=Lib.hid (HQX.out.trans (HQ4.out.mono (by omega)))
    have hsz4':=HQ4.out.size
    have HU4:=Lib.hid (HUX.out.gr HQ4.out (by omega))
    have HM4:=Lib.hid (HMX.out.gr HQ4.out (by omega))
    have HVA4:=Lib.hid (HVA.out.gr HQ4.out hb1)
    have HVB4:=Lib.hid (HVB.out.gr HQ4.out hb2)
    have HVC4:=Lib.hid (HVC.out.gr HQ4.out hb3)
    clear HG3 HG4 hc3 hf3 hc4 hf4 y2 z1 HUX HMX HVA HVB HVC
    go_wp2
    obtain ⟨wo,hwo⟩:∃q,q=wr:=⟨_,rfl⟩
    subst hwo
    go_loopw [14] (fun s wq=> ∃j:Nat,j≤o3∧s= .int .i64 j∧Hid (VB wq sb ((seenS N (rowsTo o m i++R.take j)).map Value.bool))∧Hid (Kp w4 wq (some sb))) (fun s _=>o3 - (intOf s).toNat)
    case atStart=>exact⟨0,Nat.zero_le _,rfl,Lib.hid (by rw [List.take_zero,List.append_nil];exact HU4.out),Lib.hid ((Gr.refl _ _).kp _)⟩
    case round=>
     clear HU4
     obtain ⟨j,hj,rfl,HU,HK⟩:=hrel
     have hszk:=HK.out.g.size
     have HQ6:=Lib.hid (HQ5.out.trans (HK.out.gr (fun b e=>by have:=Option.some.inj e;omega) (by omega)))
     have y2:=(HQ6.out.cell (p:=⟨tb,2,none⟩) htl).trans Y2.out
     have z1:=(HQ6.out.cell (p:=⟨g1,i,none⟩) hg1).trans HV1.out
     have htbr:tb<wr.heap.size:=by omega
     have hg1r:g1<wr.heap.size:=by omega
     have hr1r:r1<wr.heap.size:=by omega
     by_cases hlj:j<o3
     ·have qj:(j:Int)<(o3:Int):=by omega
      have qj0:(0:Int)≤(j:Int):=by omega
      have hjR:j<R.length:=by omega
      obtain ⟨k,hk9⟩:∃k,R[j]=k:=⟨_,rfl⟩
      obtain ⟨hkN,hkat⟩:=HR.out j k (by rw [List.getElem?_eq_getElem hjR,hk9])
      have z2:=(HQ6.out.cell (p:=⟨r1,j,none⟩) hr1).trans (HCI.out j hjR)
      rw [hk9]at z2
      have HNX2:=Lib.hid (show rowsTo o m i++R.take (j+1)=(rowsTo o m i++R.take j)++ [k]from by rw [List.take_add_one,List.getElem?_eq_getElem hjR,hk9,List.append_assoc];rfl)
      have qk:(k:Int)<(N:Int):=by omega
      have qk0:(0:Int)≤(k:Int):=by omega
      have qk1:¬(k:Int)<0:=by omega
      have qk2:¬(N:Int)≤(k:Int):=by omega
      obtain ⟨P,hP9⟩:∃P,atP A B C (nodeW j)=P:=⟨_,rfl⟩
      have HAT1:=Lib.hid (fun W=>tr_At A B C j W HPA HPB HPC)
      have HNODE:=Lib.hid (fun (W:World) (hW:Gr W0.heap.size W0 W)=>sh_Node o j W HO2.out (by rw [HO3.out];exact hlj) (HSD.out.gr hW))
      rw [hP9]at HAT1 hkat
      obtain ⟨l,hl⟩:∃l,nodeW j=l:=⟨_,rfl⟩
      rw [hl]at HAT1 HNODE
      obtain ⟨l0,l1,l2⟩:=l
      replace HAT1:=Lib.hid (show ∀W,Calls Tryz.prog 11 #[pV A,pV B,pV C,node3 l0 l1 l2] W (Ret W (pV P))from HAT1.out)
      replace HNODE:=Lib.hid (show ∀W,Gr W0.heap.size W0 W→Calls Tryz.prog 10 #[.int .i64 (o:Int),.int .i64 (j:Int)] W (Ret W (.tuple #[node3 l0 l1 l2,.int .i64 0]))from HNODE.out)
      clear hl hP9 hk9
      go_upto_region 19 with fail
      go_cut [16,17] (fun s16 s17 wx=> ∃nb:Nat,s16= .pointer (some ⟨nb,0,none⟩)∧s17= .int .i64 0∧VB wx nb [.int .u64 (lowN (sz l0.num)),.string (bigS (sz l0.num)),.bool (ng l0.num),.int .u64 (lowN (fm l0)),.string (bigS (fm l0)),.int .u64 (lowN (sz l1.num)),.string (bigS (sz l1.num)),.bool (ng l1.num),.int .u64 (lowN (fm l1)),.string (bigS (fm l1)),.int .u64 (lowN (sz l2.num)),.string (bigS (sz l2.num)),.bool (ng l2.num),.int .u64 (lowN (fm l2)),.string (bigS (fm l2))]∧wr.heap.size≤nb∧Gr wr.heap.size wr wx)
      case first=>
       go_wp2_with fail
       (refine(HOR.out _).mono ?_;rintro e w6 ⟨rfl,hg6⟩;(try (with_reducible replace hg6:=Gr.of_drew hg6));have hsz6:=hg6.size;(try simp at hsz6);have hy6_0:tb<w6.heap.size:=(by omega);obtain ⟨hc6,hf6⟩:=hg6.cells;have HG6:=Lib.hid hg6;clear hg6)
       go_wp2_with fail
       (refine(HNODE.out _ (by(with_reducible (repeat' (first|exact Gr.refl _ _|refine Gr.drew ?_|refine Gr.setCell ?_ ?_ _|refine Gr.alloc ?_ ?_ _|refine Gr.trans ?_ (Gr.mono HG6.out ?_)|refine Gr.trans ?_ (Gr.mono HQ6.out ?_)|omega|(simp;done)|(simp;omega)))))).mono ?_;rintro e w7 ⟨rfl,hg7⟩;(try (with_reducible replace hg7:=Gr.of_drew hg7));have hsz7:=hg7.size;(try simp at hsz7);have hy7_0:tb<w7.heap.size:=(by omega);obtain ⟨hc7,hf7⟩:=hg7.cells;have HG7:=Lib.hid hg7;clear hg7)
       go_wp2_with fail
       go_meet
       exact⟨w7.heap.size,rfl,rfl,by(with_reducible (repeat' (first|(refine VB.new' ?_;exact(by first|omega|(simp;done)|(simp;omega)))|apply VB.put2|apply VB.put3|apply VB.put5|refine VB.drew ?_|refine VB.far ?_ ?_ _|refine VB.alloc ?_ _|omega|(simp;done)|(simp;omega)))),by omega,by(with_reducible (repeat' (first|exact Gr.refl _ _|refine Gr.drew ?_|refine Gr.setCell ?_ ?_ _|refine Gr.alloc ?_ ?_ _|refine Gr.trans ?_ (Gr.mono HG7.out ?_)|refine Gr.trans ?_ (Gr.mono HG6.out ?_)|omega|(simp;done)|(simp;omega))))⟩
      case rest=>
       obtain ⟨wy,hwy⟩:∃q,q=wc:=⟨_,rfl⟩
       subst hwy
       obtain ⟨nb,rfl,rfl,hVN,hln,hgy⟩:=hcut
       have hszy:=hgy.size
       have hnb:=hVN.lt
       have HQ8:=Lib.hid (HQ6.out.trans (hgy.mono (by omega)))
       have HK8:=Lib.hid (HK.out.trans (hgy.kp _))
       have HU8:=Lib.hid (HU.out.gr hgy (by have:=HU.out.lt;omega))
       obtain ⟨a0,a1,a2,a3,a4,a5,a6,a7,a8,a9⟩:=(HVA4.out.kp HK8.out (fun e=>by have:=Option.some.inj e;omega)).ten
       obtain ⟨b_0,b_1,b_2,b_3,b_4,b_5,b_6,b_7,b_8,b_9⟩:=(HVB4.out.kp HK8.out (fun e=>by have:=Option.some.inj e;omega)).ten
       obtain ⟨c_0,c_1,c_2,c_3,c_4,c_5,c_6,c_7,c_8,c_9⟩:=(HVC4.out.kp HK8.out (fun e=>by have:=Option.some.inj e;omega)).ten
       have n0:=hVN.c 0 _ rfl
       have n1:=hVN.c 1 _ rfl
       have n2:=hVN.c 2 _ rfl
       have n3:=hVN.c 3 _ rfl
       have n4:=hVN.c 4 _ rfl
       have n5:=hVN.c 5 _ rfl
       have n6:=hVN.c 6 _ rfl
       have n7:=hVN.c 7 _ rfl
       have n8:=hVN.c 8 _ rfl
       have n9:=hVN.c 9 _ rfl
       have n10:=hVN.c 10 _ rfl
       have n11:=hVN.c 11 _ rfl
       have n12:=hVN.c 12 _ rfl
       have n13:=hVN.c 13 _ rfl
       have n14:=hVN.c 14 _ rfl
       have hka:k<(atM o m).length:=(List.getElem?_eq_some_iff.1 hkat).1
       have hP9:=(List.getElem?_eq_some_iff.1 hkat).2
       obtain ⟨ga,ca,e4,_,_,_,hsa,hRa⟩:=HTM.out.2.1.block (by intro e;rw [e]at hka;simp at hka)
       injection e4 with e4 e6 e5
       clear e6
       subst e4 e5
       have hga:=hsa.lt
       obtain ⟨d0,d1,d2,d3,d4,d5,d6,d7,d8,d9⟩:=hRa.fPt hka hP9
       rw [←HQ8.out.cell (p:=⟨ga,k*10,none⟩) hga]at d0
       rw [←HQ8.out.cell (p:=⟨ga,k*10+1,none⟩) hga]at d1
       rw [←HQ8.out.cell (p:=⟨ga,k*10+2,none⟩) hga]at d2
       rw [←HQ8.out.cell (p:=⟨ga,k*10+3,none⟩) hga]at d3
       rw [←HQ8.out.cell (p:=⟨ga,k*10+4,none⟩) hga]at d4
       rw [←HQ8.out.cell (p:=⟨ga,k*10+5,none⟩) hga]at d5
       rw [←HQ8.out.cell (p:=⟨ga,k*10+6,none⟩) hga]at d6
       rw [←HQ8.out.cell (p:=⟨ga,k*10+7,none⟩) hga]at d7
       rw [←HQ8.out.cell (p:=⟨ga,k*10+8,none⟩) hga]at d8
       rw [←HQ8.out.cell (p:=⟨ga,k*10+9,none⟩) hga]at d9
       have y1:=(HQ8.out.cell (p:=⟨tb,1,none⟩) htl).trans Y1.out
       have y3:=(HQ8.out.cell (p:=⟨tb,3,none⟩) htl).trans Y3.out
       clear hRa hsa hP9 hkat hka hVN hgy y2 z1 z2 HNODE
       have hx0:tb<wy.heap.size:=by omega
       have hx1:ga<wy.heap.size:=by omega
       have hx2:b1<wy.heap.size:=by omega
       have hx3:b2<wy.heap.size:=by omega
       have hx4:b3<wy.heap.size:=by omega
       go_upto_region 20 with fail
       refine wp_region_held_drew (S:=(fun w'=>w'.cell? ⟨tb,1,none⟩=some (.int .i64 (N:Int))∧w'.cell? ⟨tb,3,none⟩=some (.slice (some ⟨ga,0,none⟩) N cy)∧w'.cell? ⟨ga,k*10,none⟩=some (.int .u64 (lowN (sz P.x.num)))∧w'.cell? ⟨ga,k*10+1,none⟩=some (.string (bigS (sz P.x.num)))∧w'.cell? ⟨ga,k*10+2,none⟩=some (.bool (ng P.x.num))∧w'.cell? ⟨ga,k*10+3,none⟩=some (.int .u64 (lowN (fm P.x)))∧w'.cell? ⟨ga,k*10+4,none⟩=some (.string (bigS (fm P.x)))∧w'.cell? ⟨ga,k*10+5,none⟩=some (.int .u64 (lowN (sz P.y.num)))∧w'.cell? ⟨ga,k*10+6,none⟩=some (.string (bigS (sz P.y.num)))∧w'.cell? ⟨ga,k*10+7,none⟩=some (.bool (ng P.y.num))∧w'.cell? ⟨ga,k*10+8,none⟩=some (.int .u64 (lowN (fm P.y)))∧w'.cell? ⟨ga,k*10+9,none⟩=some (.string (bigS (fm P.y)))∧w'.cell? ⟨b1,0,none⟩=some (.int .u64 (lowN (sz A.x.num)))∧w'.cell? ⟨b1,1,none⟩=some (.string (bigS (sz A.x.num)))∧w'.cell? ⟨b1,2,none⟩=some (.bool (ng A.x.num))∧w'.cell? ⟨b1,3,none⟩=some (.int .u64 (lowN (fm A.x)))∧w'.cell? ⟨b1,4,none⟩=some (.string (bigS (fm A.x)))∧w'.cell? ⟨b1,5,none⟩=some (.int .u64 (lowN (sz A.y.num)))∧w'.cell? ⟨b1,6,none⟩=some (.string (bigS (sz A.y.num)))∧w'.cell? ⟨b1,7,none⟩=some (.bool (ng A.y.num))∧w'.cell? ⟨b1,8,none⟩=some (.int .u64 (lowN (fm A.y)))∧w'.cell? ⟨b1,9,none⟩=some (.string (bigS (fm A.y)))∧w'.cell? ⟨b2,0,none⟩=some (.int .u64 (lowN (sz B.x.num)))∧w'.cell? ⟨b2,1,none⟩=some (.string (bigS (sz B.x.num)))∧w'.cell? ⟨b2,2,none⟩=some (.bool (ng B.x.num))∧w'.cell? ⟨b2,3,none⟩=some (.int .u64 (lowN (fm B.x)))∧w'.cell? ⟨b2,4,none⟩=some (.string (bigS (fm B.x)))∧w'.cell? ⟨b2,5,none⟩=some (.int .u64 (lowN (sz B.y.num)))∧w'.cell? ⟨b2,6,none⟩=some (.string (bigS (sz B.y.num)))∧w'.cell? ⟨b2,7,none⟩=some (.bool (ng B.y.num))∧w'.cell? ⟨b2,8,none⟩=some (.int .u64 (lowN (fm B.y)))∧w'.cell? ⟨b2,9,none⟩=some (.string (bigS (fm B.y)))∧w'.cell? ⟨b3,0,none⟩=some (.int .u64 (lowN (sz C.x.num)))∧w'.cell? ⟨b3,1,none⟩=some (.string (bigS (sz C.x.num)))∧w'.cell? ⟨b3,2,none⟩=some (.bool (ng C.x.num))∧w'.cell? ⟨b3,3,none⟩=some (.int .u64 (lowN (fm C.x)))∧w'.cell? ⟨b3,4,none⟩=some (.string (bigS (fm C.x)))∧w'.cell? ⟨b3,5,none⟩=some (.int .u64 (lowN (sz C.y.num)))∧w'.cell? ⟨b3,6,none⟩=some (.string (bigS (sz C.y.num)))∧w'.cell? ⟨b3,7,none⟩=some (.bool (ng C.y.num))∧w'.cell? ⟨b3,8,none⟩=some (.int .u64 (lowN (fm C.y)))∧w'.cell? ⟨b3,9,none⟩=some (.string (bigS (fm C.y)))∧w'.cell? ⟨nb,0,none⟩=some (.int .u64 (lowN (sz l0.num)))∧w'.cell? ⟨nb,1,none⟩=some (.string (bigS (sz l0.num)))∧w'.cell? ⟨nb,2,none⟩=some (.bool (ng l0.num))∧w'.cell? ⟨nb,3,none⟩=some (.int .u64 (lowN (fm l0)))∧w'.cell? ⟨nb,4,none⟩=some (.string (bigS (fm l0)))∧w'.cell? ⟨nb,5,none⟩=some (.int .u64 (lowN (sz l1.num)))∧w'.cell? ⟨nb,6,none⟩=some (.string (bigS (sz l1.num)))∧w'.cell? ⟨nb,7,none⟩=some (.bool (ng l1.num))∧w'.cell? ⟨nb,8,none⟩=some (.int .u64 (lowN (fm l1)))∧w'.cell? ⟨nb,9,none⟩=some (.string (bigS (fm l1)))∧w'.cell? ⟨nb,10,none⟩=some (.int .u64 (lowN (sz l2.num)))∧w'.cell? ⟨nb,11,none⟩=some (.string (bigS (sz l2.num)))∧w'.cell? ⟨nb,12,none⟩=some (.bool (ng l2.num))∧w'.cell? ⟨nb,13,none⟩=some (.int .u64 (lowN (fm l2)))∧w'.cell? ⟨nb,14,none⟩=some (.string (bigS (fm l2))))) (by kernel_rfl) ?_ (fun hHeld=>?_)
       ·simp [go_sem, *]
       refine tk 0 (some 134) (.int .i64 0) ?_
       try simp only [pS]
       refine tk 1 (some 135) (.bool false) ?_
       try simp only [pS]
       refine tk 2 (some 136) (.bool false) ?_
       try simp only [pS]
       refine tk 3 (some 137) (.int .i64 (k:Int)) ?_
       try simp only [pS]
       refine tk 4 (some 138) (.bool false) ?_
       try simp only [pS]
       refine tk 5 (some 139) (.bool false) ?_
       try simp only [pS]
       refine tk 6 (some 140) (.bool false) ?_
       try simp only [pS]
       refine tk 7 (some 141) (.int .i64 (k:Int)) ?_
       try simp only [pS]
       refine tk 8 (some 142) (.pointer (some ⟨tb,1,none⟩)) ?_
       try simp only [pS]
       refine tk 9 (some 143) (.int .i64 (N:Int)) ?_
       try simp only [pS]
       refine tk 10 (some 144) (.bool false) ?_
       try simp only [pS]
       refine tk 11 (some 145) (.bool false) ?_
       try simp only [pS]
       refine tk 12 (some 146) (.bool false) ?_
       try simp only [pS]
       refine tk 13 (some 147) (.pointer (some ⟨tb,3,none⟩)) ?_
       try simp only [pS]
       refine tk 14 (some 148) (.slice (some ⟨ga,0,none⟩) N cy) ?_
       try simp only [pS]
       refine tk 15 (some 149) (.int .i64 (k:Int)) ?_
       try simp only [pS]
       refine tk 16 (some 150) (.pointer (some ⟨ga,k*10,none⟩)) ?_
       try simp only [pS]
       refine tk 17 (some 151) (.agg #[.int .u64 (lowN (sz P.x.num)),.string (bigS (sz P.x.num)),.bool (ng P.x.num),.int .u64 (lowN (fm P.x)),.string (bigS (fm P.x)),.int .u64 (lowN (sz P.y.num)),.string (bigS (sz P.y.num)),.bool (ng P.y.num),.int .u64 (lowN (fm P.y)),.string (bigS (fm P.y))]) ?_
       try simp only [pS]
       refine tk 18 (some 152) (.agg #[.int .u64 (lowN (sz A.x.num)),.string (bigS (sz A.x.num)),.bool (ng A.x.num),.int .u64 (lowN (fm A.x)),.string (bigS (fm A.x)),.int .u64 (lowN (sz A.y.num)),.string (bigS (sz A.y.num)),.bool (ng A.y.num),.int .u64 (lowN (fm A.y)),.string (bigS (fm A.y))]) ?_
       try simp only [pS]
       refine tk 19 (some 153) (.agg #[.int .u64 (lowN (sz B.x.num)),.string (bigS (sz B.x.num)),.bool (ng B.x.num),.int .u64 (lowN (fm B.x)),.string (bigS (fm B.x)),.int .u64 (lowN (sz B.y.num)),.string (bigS (sz B.y.num)),.bool (ng B.y.num),.int .u64 (lowN (fm B.y)),.string (bigS (fm B.y))]) ?_
       try simp only [pS]
       refine tk 20 (some 154) (.agg #[.int .u64 (lowN (sz C.x.num)),.string (bigS (sz C.x.num)),.bool (ng C.x.num),.int .u64 (lowN (fm C.x)),.string (bigS (fm C.x)),.int .u64 (lowN (sz C.y.num)),.string (bigS (sz C.y.num)),.bool (ng C.y.num),.int .u64 (lowN (fm C.y)),.string (bigS (fm C.y))]) ?_
       try simp only [pS]
       refine tk 21 (some 155) (.agg #[.int .u64 (lowN (sz l0.num)),.string (bigS (sz l0.num)),.bool (ng l0.num),.int .u64 (lowN (fm l0)),.string (bigS (fm l0)),.int .u64 (lowN (sz l1.num)),.string (bigS (sz l1.num)),.bool (ng l1.num),.int .u64 (lowN (fm l1)),.string (bigS (fm l1)),.int .u64 (lowN (sz l2.num)),.string (bigS (sz l2.num)),.bool (ng l2.num),.int .u64 (lowN (fm l2)),.string (bigS (fm l2))]) ?_
       try simp only [pS]
       refine rd 22 (fun K hK=>?_)
       go_simp
       (refine(HAT1.out _).mono ?_;rintro e w9 ⟨rfl,hg9⟩;(try (with_reducible replace hg9:=Gr.of_drew hg9));have hsz9:=hg9.size;(try simp at hsz9);have hy9_0:tb<w9.heap.size:=(by omega);have hy9_1:ga<w9.heap.size:=(by omega);have hy9_2:b1<w9.heap.size:=(by omega);have hy9_3:b2<w9.heap.size:=(by omega);have hy9_4:b3<w9.heap.size:=(by omega);have hy9_5:nb<w9.heap.size:=(by omega);obtain ⟨hc9,hf9⟩:=hg9.cells;have HG9:=Lib.hid hg9;clear hg9)
       (try dsimp only)
       refine hK.out _ _ ?_ (fun hQ1=>?_)
       ·(first|exact trivial|((try dsimp only);simp [go_sem, *]))
       clear hK K hHeld
       try simp only [pS]
       refine tk 23 (some 157) (.bool false) ?_
       try simp only [pS]
       refine tk 24 (some 158) (.bool false) ?_
       try simp only [pS]
       refine wpAnyH_done (by kernel_rfl) ?_ _
       have HU9:=Lib.hid (show VB w9 sb _ from HU8.out.gr (show Gr wy.heap.size wy w9 from by(with_reducible (repeat' (first|exact Gr.refl _ _|refine Gr.drew ?_|refine Gr.setCell ?_ ?_ _|refine Gr.alloc ?_ ?_ _|refine Gr.trans ?_ (Gr.mono HG9.out ?_)|omega|(simp;done)|(simp;omega))))) HU8.out.lt)
       have HK9:=Lib.hid (HK8.out.trans ((show Gr wy.heap.size wy w9 from by(with_reducible (repeat' (first|exact Gr.refl _ _|refine Gr.drew ?_|refine Gr.setCell ?_ ?_ _|refine Gr.alloc ?_ ?_ _|refine Gr.trans ?_ (Gr.mono HG9.out ?_)|omega|(simp;done)|(simp;omega))))).kp _))
       clear HG9 hc9 hf9 hQ1
       have hkl:k<(seenS N (rowsTo o m i++R.take j)).length:=by rw [seenS_len];exact hkN
       obtain ⟨u9,u0⟩:=HU9.out.at hkl
       have u1:=HU9.out.f k (by rw [List.length_map];exact hkl)
       have husb:=HU9.out.lt
       go_wp2
       go_roundw
       case rel=>exact⟨j+1,by omega,by go_num,Lib.hid (by rw [HNX2.out,←seenS_set];exact HU9.out.bool k true hkl),Lib.hid (HK9.out.trans (Kp.sets _ _ k [_]))⟩
       case measure=>simp [intOf];omega
     ·have hjl:j=o3:=by omega
      subst hjl
      have HNX3:=Lib.hid (show rowsTo o m i++R.take j=rowsTo o m (i+1)from by rw [HNX.out,List.take_of_length_le (by omega)])
      go_wp2
      go_roundw
      case rel=>exact⟨i+1,by omega,by go_num,Lib.hid (by rw [←HNX3.out];exact HU.out),Lib.hid (HM4.out.kp HK.out (fun e=>hsm (Option.some.inj e).symm)),HQ6⟩
      case measure=>simp [intOf];omega
  ·have hil:i=m.tris.length:=by omega
   subst hil
   have HU2:=Lib.hid (show VB wr sb ((List.replicate N true).map Value.bool)from by have h:=HU.out;rw [seenS_all (fun k hk=>mem_rowsTo (HALL.out k (by rw [HNE.out.1];exact hk)))]at h;exact h)
   go_wp2_with fail
   refine Met.intro ?_
   exact pl23 w wr m o N E tb sb mp ax ay az cx cy cz (HBW.out.trans (HQ.out.below.mono hs1)) (HT.out.gr HQ.out htl) ((HTM.out.2.1.mono (Nat.zero_le _)).gr HQ.out) (by rw [atM_len];exact HNE.out.1) hN5 HU2.out HM.out HND.out HAT.out (by omega) hsm (fun g e=>by have:=(HTM.out.2.1.own_lt e).2;omega) (by omega)
end Go.Proofs.YtjijceliboaeaaaGreatDoor
namespace Go.Proofs.YtjijceliboaeaaaGreatDoor
open Go.RowKit Gus Go.Maps
variable {vv0 vv1 vv2 vv3 vv4 vv5 vv6 vv7 vv8 vv9 vv10 vv11 vv12 vv13 vv14 vv15 vv16 vv17 vv18 vv19 vv20 vv21 vv22 vv23 vv24 vv25 vv26 vv27 vv28 vv29 vv30 vv31 vv32 vv33 vv34 vv35 vv36 vv37 vv38 vv39 vv40 vv41 vv42 vv43 vv44 vv45 vv46 vv47 vv48 vv49 vv50 vv51 vv52 vv53 vv54 vv55 vv56 vv57 vv58 vv59 vv60 vv61 vv62 vv63 vv64 vv65 vv66 vv67 vv68 vv69 vv70 vv71 vv72 vv73 vv74 vv75 vv76 vv77 vv78 vv79 vv80 vv81 vv82 vv83 vv84 vv85 vv86 vv87 vv88 vv89 vv90 vv91 vv92 vv93 vv94 vv95 vv96 vv97 vv98 vv99 vv100 vv101 vv102 vv103 vv104 vv105 vv106 vv107 vv108 vv109 vv110 vv111 vv112 vv113 vv114 vv115 vv116 vv117 vv118 vv119 vv120 vv121 vv122 vv123 vv124 vv125 vv126 vv127 vv128 vv129 vv130 vv131 vv132 vv133 vv134 vv135 vv136 vv137 vv138 vv139 vv140 vv141 vv142 vv143 vv144 vv145 vv146 vv147 vv148 vv149 vv150 vv151 vv152 vv153 vv154 vv155 vv156 vv157 vv158 vv159 vv160 vv161 vv162 vv163 vv164 vv165 vv166 vv167 vv168 vv169 vv170 vv171 vv172 vv173 vv174 vv175 vv176 vv177 vv178 vv179 vv180 vv181 vv182 vv183 vv184 vv185 vv186 vv187 vv188:Value}
set_option maxRecDepth 20000 in
set_option maxHeartbeats 8000000 in
theorem pl7 (w W:World) (two:Bool) (m:Msh) (o N E mb tb:Nat) (ho:o=ordN two) (ap at_ as_ ax ay az:Option Addr) (cp ct cs cx cy cz:Nat) (hb:Below w.heap.size w W) (hV:VB W mb [.slice ap m.pts.length cp,.slice at_ m.tris.length ct,.slice as_ m.sides.length cs]) (hT:VB W tb [.int .i64 (o:Int),.int .i64 (N:Int),.slice ax m.tris.length cx,.slice ay N cy,.slice az E cz]) (hMS:MS W 0 (.slice ap m.pts.length cp) (.slice at_ m.tris.length ct) (.slice as_ m.sides.length cs) m) (hTM:TabM W 0 o m (.slice ax m.tris.length cx) (.slice ay N cy) (.slice az E cz)) (hSd:SdW W) (hNE:numM o m=N∧(esM m.tris).length=E) (hTl:m.tris.length≤1000) (hPl:m.pts.length≤1000) (hnd:(atM o m).Nodup) (hat:∀p∈atM o m,hp p≤1000000000)
  (hrow:∀t∈m.tris,∀q k:Nat,(rowM o m t)[q]? =some k→k<numM o m∧(atM o m)[k]? =some (atP (m.pts.getD t.1 ⟨0,0⟩) (m.pts.getD t.2.1 ⟨0,0⟩) (m.pts.getD t.2.2 ⟨0,0⟩) (nodeW q))) (hall:∀k,k<numM o m→∃t∈m.tris,k∈rowM o m t) (hg:∀t∈m.tris,goodT m.pts.length t) (hpt:∀p∈m.pts,hp p≤1000000):
  Code.wp Tryz.prog (tlP 7) (bodyPost Tryz.prog Tryz.f3 (fun e w'=>e= .returned (.bool true)∧Below w.heap.size w w')) {tmps:= #[vv0,.bool two,vv2,vv3,vv4,.pointer (some ⟨mb,0,none⟩),.pointer (some ⟨tb,0,none⟩),vv7,vv8,vv9,vv10,vv11,vv12,vv13,vv14,vv15,vv16,vv17,vv18,vv19,vv20,vv21,vv22,vv23,vv24,vv25,vv26,vv27,vv28,vv29,vv30,vv31,vv32,vv33,vv34,vv35,vv36,vv37,vv38,vv39,vv40,vv41,vv42,vv43,vv44,vv45,vv46,vv47,vv48,vv49,vv50,vv51,vv52,vv53,vv54,vv55,vv56,vv57,vv58,vv59,vv60,vv61,vv62,vv63,vv64,vv65,vv66,vv67,vv68,vv69,vv70,vv71,vv72,vv73,vv74,vv75,vv76,vv77,vv78,vv79,vv80,vv81,vv82,vv83,vv84,vv85,vv86,vv87,vv88,vv89,vv90,vv91,vv92,vv93,vv94,vv95,vv96,vv97,vv98,vv99,vv100,vv101,vv102,vv103,vv104,vv105,vv106,vv107,vv108,vv109,vv110,vv111,vv112,vv113,vv114,vv115,vv116,vv117,vv118,vv119,vv120,vv121,vv122,vv123,vv124,vv125,vv126,vv127,vv128,vv129,vv130,vv131,vv132,vv133,vv134,vv135,vv136,vv137,vv138,vv139,vv140,vv141,vv142,vv143,vv144,vv145,vv146,vv147,vv148,vv149,vv150,vv151,vv152,vv153,vv154,vv155,vv156,vv157,vv158,vv159,vv160,vv161,vv162,vv163,vv164,vv165,vv166,vv167,vv168,vv169,vv170,vv171,vv172,vv173,vv174,vv175,vv176,vv177,vv178,vv179,vv180,vv181,vv182,vv183,vv184,vv185,vv186,vv187,vv188],defers:= []} W:=by
 have hN5:N≤5000:=by have:=esM_len m.tris;rw [←hNE.1];unfold numM;split<;>omega
 have hs1:=hb.size
 have y1:=hT.c 1 _ rfl
 have hmm:= @run_makeMap Tryz.prog
 obtain ⟨i0,hi,hz0,hz1,hz2⟩:=info_parts info_bBool
 have hmk:∀W:World,(Instr.makeSlice 43 (.int .i64 (N:Int)) (.int .i64 (N:Int))).run Tryz.prog W= .ok (.slice (some ⟨W.heap.size,0,none⟩) N N) (W.alloc (.cells (madeCells #[.bool false] N) 4)):=fun W=>by
  have h:=run_make_rowN 43 4 i0 _ Tryz.underlying43 hi hz0 .i64 .i64 N N (by omega) (by rw [hz2];omega) (by omega) W
  rw [hz1,Nat.mul_one]at h
  exact h
 clear hi hz0 hz1 hz2
 have Hho:=Lib.hid ho
 have Hhb:=Lib.hid hb
 have HhV:=Lib.hid hV
 have HhT:=Lib.hid hT
 have HhMS:=Lib.hid hMS
 have HhTM:=Lib.hid hTM
 have HhSd:=Lib.hid hSd
 have HhNE:=Lib.hid hNE
 have Hhnd:=Lib.hid hnd
 have Hhat:=Lib.hid hat
 have Hhrow:=Lib.hid hrow
 have Hhall:=Lib.hid hall
 have Hhg:=Lib.hid hg
 have Hhpt:=Lib.hid hpt
 clear ho hb hV hT hMS hTM hSd hNE hnd hat hrow hall hg hpt
 refine wp_seq_k (fun K1 hK1=>?_)
 have hK19:∀a w',Met (fun a w'=>Code.wp Tryz.prog (tlP 8) (bodyPost Tryz.prog Tryz.f3 (fun e w'=>e= .returned (.bool true)∧Below w.heap.size w w')) a w') a w'→K1 a w':=fun a w' h=>hK1 a w' h
 clear hK1
 go_wp2_with fail
 refine Met.intro ?_
 clear hmk y1
 refine wp_seq_k (fun K2 hK2=>?_)
 have hK29:∀a w',Met (fun a w'=>Code.wp Tryz.prog (tlP 9) (bodyPost Tryz.prog Tryz.f3 (fun e w'=>e= .returned (.bool true)∧Below w.heap.size w w')) a w') a w'→K2 a w':=fun a w' h=>hK2 a w' h
 clear hK2
 go_wp2_with fail
 refine Met.intro ?_
 clear hmm
 have hU:VB ((W.alloc (.cells (madeCells #[.bool false] N) 4)).alloc (.map #[] 0)) W.heap.size ((seenS N []).map Value.bool):=by
  rw [seenS_nil]
  refine VB.alloc ?_ _
  rw [←Nat.mul_one N,madeCells_rep,Nat.mul_one]
  simp only [List.map_replicate]
  exact VB.new' rfl
 have hG:Gr W.heap.size W ((W.alloc (.cells (madeCells #[.bool false] N) 4)).alloc (.map #[] 0)):=by(with_reducible (repeat' (first|exact Gr.refl _ _|refine Gr.drew ?_|refine Gr.setCell ?_ ?_ _|refine Gr.alloc ?_ ?_ _|omega|(simp;done)|(simp;omega))))
 exact pl9 w W ((W.alloc (.cells (madeCells #[.bool false] N) 4)).alloc (.map #[] 0)) two m o N E mb tb W.heap.size (W.heap.size+1) Hho.out ap at_ as_ ax ay az cp ct cs cx cy cz Hhb.out HhV.out HhT.out HhMS.out HhTM.out HhSd.out hG HhNE.out hTl hPl hU (MI.new' _ _ _ (by simp)) (Nat.le_refl _) (Nat.le_succ _) (by omega) Hhnd.out Hhat.out Hhrow.out Hhall.out Hhg.out Hhpt.out
set_option maxRecDepth 20000 in
set_option maxHeartbeats 8000000 in
theorem pl5 (w W:World) (two:Bool) (m:Msh) (o N E mb tb:Nat) (ho:o=ordN two) (ap at_ as_ ax ay az:Option Addr) (cp ct cs cx cy cz:Nat) (hb:Below w.heap.size w W) (hV:VB W mb [.slice ap m.pts.length cp,.slice at_ m.tris.length ct,.slice as_ m.sides.length cs]) (hT:VB W tb [.int .i64 (o:Int),.int .i64 (N:Int),.slice ax m.tris.length cx,.slice ay N cy,.slice az E cz]) (hMS:MS W 0 (.slice ap m.pts.length cp) (.slice at_ m.tris.length ct) (.slice as_ m.sides.length cs) m) (hTM:TabM W 0 o m (.slice ax m.tris.length cx) (.slice ay N cy) (.slice az E cz)) (hSd:SdW W) (hNE:numM o m=N∧(esM m.tris).length=E) (hTl:m.tris.length≤1000) (hPl:m.pts.length≤1000) (hnd:(atM o m).Nodup) (hat:∀p∈atM o m,hp p≤1000000000)
  (hrow:∀t∈m.tris,∀q k:Nat,(rowM o m t)[q]? =some k→k<numM o m∧(atM o m)[k]? =some (atP (m.pts.getD t.1 ⟨0,0⟩) (m.pts.getD t.2.1 ⟨0,0⟩) (m.pts.getD t.2.2 ⟨0,0⟩) (nodeW q))) (hall:∀k,k<numM o m→∃t∈m.tris,k∈rowM o m t) (hg:∀t∈m.tris,goodT m.pts.length t) (hpt:∀p∈m.pts,hp p≤1000000):
  Code.wp Tryz.prog (tlP 5) (bodyPost Tryz.prog Tryz.f3 (fun e w'=>e= .returned (.bool true)∧Below w.heap.size w w')) {tmps:= #[vv0,.bool two,vv2,vv3,vv4,.pointer (some ⟨mb,0,none⟩),.pointer (some ⟨tb,0,none⟩),vv7,vv8,vv9,vv10,vv11,vv12,vv13,vv14,vv15,vv16,vv17,vv18,vv19,vv20,vv21,vv22,vv23,vv24,vv25,vv26,vv27,vv28,vv29,vv30,vv31,vv32,vv33,vv34,vv35,vv36,vv37,vv38,vv39,vv40,vv41,vv42,vv43,vv44,vv45,vv46,vv47,vv48,vv49,vv50,vv51,vv52,vv53,vv54,vv55,vv56,vv57,vv58,vv59,vv60,vv61,vv62,vv63,vv64,vv65,vv66,vv67,vv68,vv69,vv70,vv71,vv72,vv73,vv74,vv75,vv76,vv77,vv78,vv79,vv80,vv81,vv82,vv83,vv84,vv85,vv86,vv87,vv88,vv89,vv90,vv91,vv92,vv93,vv94,vv95,vv96,vv97,vv98,vv99,vv100,vv101,vv102,vv103,vv104,vv105,vv106,vv107,vv108,vv109,vv110,vv111,vv112,vv113,vv114,vv115,vv116,vv117,vv118,vv119,vv120,vv121,vv122,vv123,vv124,vv125,vv126,vv127,vv128,vv129,vv130,vv131,vv132,vv133,vv134,vv135,vv136,vv137,vv138,vv139,vv140,vv141,vv142,vv143,vv144,vv145,vv146,vv147,vv148,vv149,vv150,vv151,vv152,vv153,vv154,vv155,vv156,vv157,vv158,vv159,vv160,vv161,vv162,vv163,vv164,vv165,vv166,vv167,vv168,vv169,vv170,vv171,vv172,vv173,vv174,vv175,vv176,vv177,vv178,vv179,vv180,vv181,vv182,vv183,vv184,vv185,vv186,vv187,vv188],defers:= []} W:=by
 have hN5:N≤5000:=by have:=esM_len m.tris;rw [←hNE.1];unfold numM;split<;>omega
 have y1:=hT.c 1 _ rfl
 have y4:=hT.c 4 _ rfl
 have x0:=hV.c 0 _ rfl
 have hNE1:=hNE.1
 have hNE2:=hNE.2
 have Hhb:=Lib.hid hb
 have HhV:=Lib.hid hV
 have HhT:=Lib.hid hT
 have HhMS:=Lib.hid hMS
 have HhTM:=Lib.hid hTM
 have HhSd:=Lib.hid hSd
 have HhNE:=Lib.hid hNE
 have Hhnd:=Lib.hid hnd
 have Hhat:=Lib.hid hat
 have Hhrow:=Lib.hid hrow
 have Hhall:=Lib.hid hall
 have Hhg:=Lib.hid hg
 have Hhpt:=Lib.hid hpt
 clear hb hV hT hMS hTM hSd hNE hnd hat hrow hall hg hpt
 cases two
 ·have ho1:o=1:=by rw [ho];rfl
  have z1:(N:Int)=(m.pts.length:Int):=by rw [←hNE1,ho1];rfl
  have Hho:=Lib.hid ho
  clear ho ho1 hNE1 hNE2
  refine wp_seq_k (fun K1 hK1=>?_)
  have hK19:∀a w',Met (fun a w'=>Code.wp Tryz.prog (tlP 7) (bodyPost Tryz.prog Tryz.f3 (fun e w'=>e= .returned (.bool true)∧Below w.heap.size w w')) a w') a w'→K1 a w':=fun a w' h=>hK1 a w' h
  clear hK1
  go_wp2_with fail
  refine Met.intro ?_
  exact pl7 w W false m o N E mb tb Hho.out ap at_ as_ ax ay az cp ct cs cx cy cz Hhb.out HhV.out HhT.out HhMS.out HhTM.out HhSd.out HhNE.out hTl hPl Hhnd.out Hhat.out Hhrow.out Hhall.out Hhg.out Hhpt.out
 ·have ho1:o=2:=by rw [ho];rfl
  have z0:N=m.pts.length+E:=by rw [←hNE1,ho1,←hNE2];rfl
  have z1:IntKind.i64.wrap ((m.pts.length:Int)+(E:Int))=(N:Int):=by rw [wrap64_id (by omega) (by omega)];omega
  have Hho:=Lib.hid ho
  clear ho ho1 hNE1 hNE2 z0
  refine wp_seq_k (fun K1 hK1=>?_)
  have hK19:∀a w',Met (fun a w'=>Code.wp Tryz.prog (tlP 7) (bodyPost Tryz.prog Tryz.f3 (fun e w'=>e= .returned (.bool true)∧Below w.heap.size w w')) a w') a w'→K1 a w':=fun a w' h=>hK1 a w' h
  clear hK1
  go_wp2_with fail
  refine Met.intro ?_
  exact pl7 w W true m o N E mb tb Hho.out ap at_ as_ ax ay az cp ct cs cx cy cz Hhb.out HhV.out HhT.out HhMS.out HhTM.out HhSd.out HhNE.out hTl hPl Hhnd.out Hhat.out Hhrow.out Hhall.out Hhg.out Hhpt.out
set_option maxRecDepth 20000 in
set_option maxHeartbeats 8000000 in
theorem pl3 (w W:World) (two:Bool) (m:Msh) (o N E mb tb:Nat) (ho:o=ordN two) (ap at_ as_ ax ay az:Option Addr) (cp ct cs cx cy cz:Nat) (hb:Below w.heap.size w W) (hV:VB W mb [.slice ap m.pts.length cp,.slice at_ m.tris.length ct,.slice as_ m.sides.length cs]) (hT:VB W tb [.int .i64 (o:Int),.int .i64 (N:Int),.slice ax m.tris.length cx,.slice ay N cy,.slice az E cz]) (hMS:MS W 0 (.slice ap m.pts.length cp) (.slice at_ m.tris.length ct) (.slice as_ m.sides.length cs) m) (hTM:TabM W 0 o m (.slice ax m.tris.length cx) (.slice ay N cy) (.slice az E cz)) (hSd:SdW W) (hNE:numM o m=N∧(esM m.tris).length=E) (hTl:m.tris.length≤1000) (hPl:m.pts.length≤1000) (hnd:(atM o m).Nodup) (hat:∀p∈atM o m,hp p≤1000000000)
  (hrow:∀t∈m.tris,∀q k:Nat,(rowM o m t)[q]? =some k→k<numM o m∧(atM o m)[k]? =some (atP (m.pts.getD t.1 ⟨0,0⟩) (m.pts.getD t.2.1 ⟨0,0⟩) (m.pts.getD t.2.2 ⟨0,0⟩) (nodeW q))) (hall:∀k,k<numM o m→∃t∈m.tris,k∈rowM o m t) (hg:∀t∈m.tris,goodT m.pts.length t) (hpt:∀p∈m.pts,hp p≤1000000) (hne0:m.tris≠ []):
  Code.wp Tryz.prog (tlP 3) (bodyPost Tryz.prog Tryz.f3 (fun e w'=>e= .returned (.bool true)∧Below w.heap.size w w')) {tmps:= #[vv0,.bool two,vv2,vv3,vv4,.pointer (some ⟨mb,0,none⟩),.pointer (some ⟨tb,0,none⟩),.int .i64 0,vv8,vv9,vv10,vv11,vv12,vv13,vv14,vv15,vv16,vv17,vv18,vv19,vv20,vv21,vv22,vv23,vv24,vv25,vv26,vv27,vv28,vv29,vv30,vv31,vv32,vv33,vv34,vv35,vv36,vv37,vv38,vv39,vv40,vv41,vv42,vv43,vv44,vv45,vv46,vv47,vv48,vv49,vv50,vv51,vv52,vv53,vv54,vv55,vv56,vv57,vv58,vv59,vv60,vv61,vv62,vv63,vv64,vv65,vv66,vv67,vv68,vv69,vv70,vv71,vv72,vv73,vv74,vv75,vv76,vv77,vv78,vv79,vv80,vv81,vv82,vv83,vv84,vv85,vv86,vv87,vv88,vv89,vv90,vv91,vv92,vv93,vv94,vv95,vv96,vv97,vv98,vv99,vv100,vv101,vv102,vv103,vv104,vv105,vv106,vv107,vv108,vv109,vv110,vv111,vv112,vv113,vv114,vv115,vv116,vv117,vv118,vv119,vv120,vv121,vv122,vv123,vv124,vv125,vv126,vv127,vv128,vv129,vv130,vv131,vv132,vv133,vv134,vv135,vv136,vv137,vv138,vv139,vv140,vv141,vv142,vv143,vv144,vv145,vv146,vv147,vv148,vv149,vv150,vv151,vv152,vv153,vv154,vv155,vv156,vv157,vv158,vv159,vv160,vv161,vv162,vv163,vv164,vv165,vv166,vv167,vv168,vv169,vv170,vv171,vv172,vv173,vv174,vv175,vv176,vv177,vv178,vv179,vv180,vv181,vv182,vv183,vv184,vv185,vv186,vv187,vv188],defers:= []} W:=by
 have hN5:N≤5000:=by have:=esM_len m.tris;rw [←hNE.1];unfold numM;split<;>omega
 have HED:=Lib.hid (show ∀W',Gr W.heap.size W W'→Calls Tryz.prog 7 #[.agg #[.slice ap m.pts.length cp,.slice at_ m.tris.length ct,.slice as_ m.sides.length cs]] W' (fun e w'=> ∃(a:Option Addr) (c:Nat),e= .returned (.slice a E c)∧Gr W'.heap.size W' w')from fun W' hW=>by
  refine(ms_EdgesM m _ _ _ W' (hMS.gr hW) (by omega) hg (by omega) hne0).mono ?_
  rintro e w' ⟨v',rfl,hS,hg'⟩
  obtain ⟨a,c,rfl⟩:=hS.at
  exact⟨a,c,by rw [hNE.2],hg'⟩)
 have y1:=hT.c 1 _ rfl
 have y2:=hT.c 2 _ rfl
 have y3:=hT.c 3 _ rfl
 have y4:=hT.c 4 _ rfl
 have x0:=hV.c 0 _ rfl
 have x1:=hV.c 1 _ rfl
 have x2:=hV.c 2 _ rfl
 have htl:=hT.lt
 have hvl:=hV.lt
 have hs1:=hb.size
 have Hho:=Lib.hid ho
 have Hhb:=Lib.hid hb
 have HhV:=Lib.hid hV
 have HhT:=Lib.hid hT
 have HhMS:=Lib.hid hMS
 have HhTM:=Lib.hid hTM
 have HhSd:=Lib.hid hSd
 have HhNE:=Lib.hid hNE
 have Hhnd:=Lib.hid hnd
 have Hhat:=Lib.hid hat
 have Hhrow:=Lib.hid hrow
 have Hhall:=Lib.hid hall
 have Hhg:=Lib.hid hg
 have Hhpt:=Lib.hid hpt
 clear ho hb hV hT hMS hTM hSd hNE hnd hat hrow hall hg hpt
 refine wp_seq_k (fun K1 hK1=>?_)
 have hK19:∀a w',Met (fun a w'=>Code.wp Tryz.prog (tlP 5) (bodyPost Tryz.prog Tryz.f3 (fun e w'=>e= .returned (.bool true)∧Below w.heap.size w w')) a w') a w'→K1 a w':=fun a w' h=>hK1 a w' h
 clear hK1
 go_upto_region 3 with fail
 refine wp_region_held_drew (S:=(fun w'=>w'.cell? ⟨tb,1,none⟩=some (.int .i64 (N:Int))∧w'.cell? ⟨tb,2,none⟩=some (.slice ax m.tris.length cx)∧w'.cell? ⟨tb,3,none⟩=some (.slice ay N cy)∧w'.cell? ⟨tb,4,none⟩=some (.slice az E cz)∧w'.cell? ⟨mb,0,none⟩=some (.slice ap m.pts.length cp)∧w'.cell? ⟨mb,1,none⟩=some (.slice at_ m.tris.length ct)∧w'.cell? ⟨mb,2,none⟩=some (.slice as_ m.sides.length cs))) (by kernel_rfl) ?_ (fun hHeld=>?_)
 ·simp [go_sem, *]
 refine tk 0 (some 28) (.int .i64 0) ?_
 try simp only [pS]
 refine tk 1 (some 29) (.bool false) ?_
 try simp only [pS]
 refine tk 2 (some 30) (.bool false) ?_
 try simp only [pS]
 refine tk 3 (some 31) (.pointer (some ⟨tb,2,none⟩)) ?_
 try simp only [pS]
 refine tk 4 (some 32) (.slice ax m.tris.length cx) ?_
 try simp only [pS]
 refine tk 5 (some 33) (.int .i64 (m.tris.length:Int)) ?_
 try simp only [pS]
 refine tk 6 (some 34) (.pointer (some ⟨mb,1,none⟩)) ?_
 try simp only [pS]
 refine tk 7 (some 35) (.slice at_ m.tris.length ct) ?_
 try simp only [pS]
 refine tk 8 (some 36) (.int .i64 (m.tris.length:Int)) ?_
 try simp only [pS]
 refine tk 9 (some 37) (.bool false) ?_
 try simp only [pS]
 refine tk 10 (some 38) (.bool false) ?_
 try simp only [pS]
 refine tk 11 (some 39) (.bool false) ?_
 try simp only [pS]
 refine tk 12 (some 40) (.pointer (some ⟨tb,3,none⟩)) ?_
 try simp only [pS]
 refine tk 13 (some 41) (.slice ay N cy) ?_
 try simp only [pS]
 refine tk 14 (some 42) (.int .i64 (N:Int)) ?_
 try simp only [pS]
 refine tk 15 (some 43) (.pointer (some ⟨tb,1,none⟩)) ?_
 try simp only [pS]
 refine tk 16 (some 44) (.int .i64 (N:Int)) ?_
 try simp only [pS]
 refine tk 17 (some 45) (.bool false) ?_
 try simp only [pS]
 refine tk 18 (some 46) (.bool false) ?_
 try simp only [pS]
 refine tk 19 (some 47) (.bool false) ?_
 try simp only [pS]
 refine tk 20 (some 48) (.pointer (some ⟨tb,4,none⟩)) ?_
 try simp only [pS]
 refine tk 21 (some 49) (.slice az E cz) ?_
 try simp only [pS]
 refine tk 22 (some 50) (.int .i64 (E:Int)) ?_
 try simp only [pS]
 refine tk 23 (some 51) (.agg #[.slice ap m.pts.length cp,.slice at_ m.tris.length ct,.slice as_ m.sides.length cs]) ?_
 try simp only [pS]
 refine rd 24 (fun K hK=>?_)
 go_simp
 (refine(HED.out _ (by(with_reducible (repeat' (first|exact Gr.refl _ _|refine Gr.drew ?_|refine Gr.setCell ?_ ?_ _|refine Gr.alloc ?_ ?_ _|omega|(simp;done)|(simp;omega)))))).mono ?_;rintro e w4 ⟨ae,ce,rfl,hg4⟩;(try (with_reducible replace hg4:=Gr.of_drew hg4));have hsz4:=hg4.size;(try simp at hsz4);have hy40:tb<w4.heap.size:=(by omega);have hy41:mb<w4.heap.size:=(by omega);obtain ⟨hc4,hf4⟩:=hg4.cells;have HG4:=Lib.hid hg4;clear hg4)
 (try dsimp only)
 refine hK.out _ _ ?_ (fun hQ1=>?_)
 ·(first|exact trivial|((try dsimp only);simp [go_sem, *]))
 clear hK K hHeld
 try simp only [pS]
 refine tk 25 (some 53) (.int .i64 (E:Int)) ?_
 try simp only [pS]
 refine tk 26 (some 54) (.bool false) ?_
 try simp only [pS]
 refine tk 27 (some 55) (.bool false) ?_
 try simp only [pS]
 refine wpAnyH_done (by kernel_rfl) ?_ _
 go_wp2_with fail
 refine Met.intro ?_
 have hG:Gr W.heap.size W w4:=by(with_reducible (repeat' (first|exact Gr.refl _ _|refine Gr.drew ?_|refine Gr.setCell ?_ ?_ _|refine Gr.alloc ?_ ?_ _|refine Gr.trans ?_ (Gr.mono HG4.out ?_)|omega|(simp;done)|(simp;omega))))
 exact pl5 w w4 two m o N E mb tb Hho.out ap at_ as_ ax ay az cp ct cs cx cy cz (Hhb.out.trans (hG.below.mono hs1)) (HhV.out.gr hG hvl) (HhT.out.gr hG htl) (HhMS.out.gr hG) (HhTM.out.gr hG) (HhSd.out.gr hG) HhNE.out hTl hPl Hhnd.out Hhat.out Hhrow.out Hhall.out Hhg.out Hhpt.out
set_option maxRecDepth 20000 in
set_option maxHeartbeats 8000000 in
theorem law_places (m:Msh) (o:Nat) (two:Bool) (ho:o=ordN two) (nx ny den fi nb cc:Nat) (m0 m1 m2 m3:Int) (cv:Option Addr) (w:World) (hSd:SdW w) (hT:m.tris.length≤1000) (hP:m.pts.length≤1000) (hne0:m.tris≠ [])
  (hM:∀W:World,Gr w.heap.size w W→Calls Tryz.prog 4 #[.agg #[.int .u8 (nx:Int),.int .u8 (ny:Int),.slice cv nb cc,.int .i8 m0,.int .i8 m1,.int .i8 m2,.int .i8 m3,.int .u8 (den:Int),.int .u8 (fi:Int)]] W (fun e w'=> ∃a b c,e= .returned (.agg #[a,b,c])∧MS w' W.heap.size a b c m∧Gr W.heap.size W w'))
  (hOf:∀(W:World) a b c,MS W 0 a b c m→Calls Tryz.prog 5 #[.agg #[a,b,c],.int .i64 (o:Int)] W (fun e w'=> ∃x y z,e= .returned (.tuple #[tabV o (numM o m) x y z,.int .i64 0])∧TabM w' W.heap.size o m x y z∧Gr W.heap.size W w'))
  (hnd:(atM o m).Nodup) (hat:∀p∈atM o m,hp p≤1000000000) (hrow:∀t∈m.tris,∀q k:Nat,(rowM o m t)[q]? =some k→k<numM o m∧(atM o m)[k]? =some (atP (m.pts.getD t.1 ⟨0,0⟩) (m.pts.getD t.2.1 ⟨0,0⟩) (m.pts.getD t.2.2 ⟨0,0⟩) (nodeW q))) (hall:∀k,k<numM o m→∃t∈m.tris,k∈rowM o m t) (hg:∀t∈m.tris,goodT m.pts.length t) (hpt:∀p∈m.pts,hp p≤1000000):
  Calls Tryz.prog 3 #[.agg #[.int .u8 (nx:Int),.int .u8 (ny:Int),.slice cv nb cc,.int .i8 m0,.int .i8 m1,.int .i8 m2,.int .i8 m3,.int .u8 (den:Int),.int .u8 (fi:Int)],.bool two] w (fun e w'=>e= .returned (.bool true)∧Below w.heap.size w w'):=by
 have HM:=Lib.hid hM
 have HOF:=Lib.hid hOf
 have HO:=Lib.hid (fun W=>ho ▸ law_Order two W)
 have HO1:=Lib.hid ho
 have HSD:=Lib.hid hSd
 have Hhnd:=Lib.hid hnd
 have Hhat:=Lib.hid hat
 have Hhrow:=Lib.hid hrow
 have Hhall:=Lib.hid hall
 have Hhg:=Lib.hid hg
 have Hhpt:=Lib.hid hpt
 clear hM hOf ho hSd hnd hat hrow hall hg hpt
 go_enter Tryz.func3,Tryz.ntmps3
 go_wp2_with fail
 refine(HM.out _ (by(with_reducible (repeat' (first|exact Gr.refl _ _|refine Gr.drew ?_|refine Gr.setCell ?_ ?_ _|refine Gr.alloc ?_ ?_ _|omega|(simp;done)|(simp;omega)))))).mono ?_
 rintro e w1 ⟨va,vb,vc,rfl,hM,hg1⟩
 have hsz1:=hg1.size
 (try simp at hsz1)
 have HG1:=Lib.hid ((show Gr w.heap.size w (w.alloc (.cells #[.int .u8 (nx:Int),.int .u8 (ny:Int),.slice cv nb cc,.int .i8 m0,.int .i8 m1,.int .i8 m2,.int .i8 m3,.int .u8 (den:Int),.int .u8 (fi:Int)] 26))from by(with_reducible (repeat' (first|exact Gr.refl _ _|refine Gr.drew ?_|refine Gr.setCell ?_ ?_ _|refine Gr.alloc ?_ ?_ _|omega|(simp;done)|(simp;omega))))).trans (hg1.mono (by first|omega|(simp;done)|(simp;omega))))
 obtain ⟨hMp,hMt,hMs⟩:=hM
 obtain ⟨ap,cp,rfl⟩:=hMp.at
 obtain ⟨at_,ct,rfl⟩:=hMt.at
 obtain ⟨as_,cs,rfl⟩:=hMs.at
 have HMS:=Lib.hid (show MS (w1.alloc (.cells #[.slice ap m.pts.length cp,.slice at_ m.tris.length ct,.slice as_ m.sides.length cs] 31)) 0 (.slice ap m.pts.length cp) (.slice at_ m.tris.length ct) (.slice as_ m.sides.length cs) m from(show MS w1 0 _ _ _ m from⟨hMp.mono (Nat.zero_le _),hMt.mono (Nat.zero_le _),hMs.mono (Nat.zero_le _)⟩).gr (by(with_reducible (repeat' (first|exact Gr.refl _ _|refine Gr.drew ?_|refine Gr.setCell ?_ ?_ _|refine Gr.alloc ?_ ?_ _|omega|(simp;done)|(simp;omega))))))
 have HV:=Lib.hid (show VB (w1.alloc (.cells #[.slice ap m.pts.length cp,.slice at_ m.tris.length ct,.slice as_ m.sides.length cs] 31)) w1.heap.size [.slice ap m.pts.length cp,.slice at_ m.tris.length ct,.slice as_ m.sides.length cs]from by(with_reducible (repeat' (first|(refine VB.new' ?_;exact(by first|omega|(simp;done)|(simp;omega)))|apply VB.put2|apply VB.put3|apply VB.put5|refine VB.drew ?_|refine VB.far ?_ ?_ _|refine VB.alloc ?_ _|omega|(simp;done)|(simp;omega)))))
 have HG:=Lib.hid (show Gr w.heap.size w (w1.alloc (.cells #[.slice ap m.pts.length cp,.slice at_ m.tris.length ct,.slice as_ m.sides.length cs] 31))from by(with_reducible (repeat' (first|exact Gr.refl _ _|refine Gr.drew ?_|refine Gr.setCell ?_ ?_ _|refine Gr.alloc ?_ ?_ _|refine Gr.trans ?_ (Gr.mono HG1.out ?_)|omega|(simp;done)|(simp;omega)))))
 have hs2:(w1.alloc (.cells #[.slice ap m.pts.length cp,.slice at_ m.tris.length ct,.slice as_ m.sides.length cs] 31)).heap.size=w1.heap.size+1:=by simp
 clear hMp hMt hMs HG1 hg1
 obtain ⟨N,hN⟩:∃q,numM o m=q:=⟨_,rfl⟩
 obtain ⟨E,hE⟩:∃q,(esM m.tris).length=q:=⟨_,rfl⟩
 have HNE:=Lib.hid (And.intro hN hE)
 clear hN hE
 go_upto_region 2 with fail
 generalize (w1.alloc (.cells #[.slice ap m.pts.length cp,.slice at_ m.tris.length ct,.slice as_ m.sides.length cs] 31))=w2 at *
 have hmb:w1.heap.size<w2.heap.size:=by omega
 have hwm:w.heap.size<w1.heap.size:=by omega
 generalize w1.heap.size=mb at *
 clear hs2 hsz1
 have HTA:=Lib.hid (fun (W:World) (hW:Gr w2.heap.size w2 W)=>(show Calls Tryz.prog 5 #[.agg #[.slice ap m.pts.length cp,.slice at_ m.tris.length ct,.slice as_ m.sides.length cs],.int .i64 (o:Int)] W (fun e w'=> ∃(ax ay az:Option Addr) (cx cy cz:Nat),e= .returned (.tuple #[.agg #[.int .i64 (o:Int),.int .i64 (N:Int),.slice ax m.tris.length cx,.slice ay N cy,.slice az E cz],.int .i64 0])∧TabM w' W.heap.size o m (.slice ax m.tris.length cx) (.slice ay N cy) (.slice az E cz)∧Gr W.heap.size W w')from by
  refine(HOF.out W _ _ _ (HMS.out.gr hW)).mono ?_
  rintro e w' ⟨x,y,z,rfl,hT,hg⟩
  obtain ⟨ax,ay,az,cx,cy,cz,rfl,rfl,rfl⟩:=hT.at
  rw [HNE.out.1,HNE.out.2]at hT
  rw [HNE.out.1,HNE.out.2]
  exact⟨ax,ay,az,cx,cy,cz,rfl,hT,hg⟩))
 clear HOF HM
 have c0:=HV.out.c 0 _ rfl
 have c1:=HV.out.c 1 _ rfl
 have c2:=HV.out.c 2 _ rfl
 go_cut [6,7] (fun s8 s9 wx=> ∃(tb:Nat) (ax ay az:Option Addr) (cx cy cz:Nat),s8= .pointer (some ⟨tb,0,none⟩)∧s9= .int .i64 0∧VB wx tb [.int .i64 (o:Int),.int .i64 (N:Int),.slice ax m.tris.length cx,.slice ay N cy,.slice az E cz]∧TabM wx w2.heap.size o m (.slice ax m.tris.length cx) (.slice ay N cy) (.slice az E cz)∧w2.heap.size≤tb∧Gr w2.heap.size w2 wx)
 case first=>
  refine wp_region_held_drew (S:=(fun w'=>w'.cell? ⟨mb,0,none⟩=some (.slice ap m.pts.length cp)∧w'.cell? ⟨mb,1,none⟩=some (.slice at_ m.tris.length ct)∧w'.cell? ⟨mb,2,none⟩=some (.slice as_ m.sides.length cs))) (by kernel_rfl) ?_ (fun hHeld=>?_)
  ·simp [go_sem, *]
  refine tk 0 (some 22) (.agg #[.slice ap m.pts.length cp,.slice at_ m.tris.length ct,.slice as_ m.sides.length cs]) ?_
  try simp only [pS]
  refine tk 1 (some 23) (.bool two) ?_
  try simp only [pS]
  refine wpAnyH_ready (rs:= [2,7]) (by kernel_rfl) (by simp) ?_
  refine AllReadyH.cons rfl (fun K hK=>?_) (AllReadyH.cons rfl (fun K hK=>?_) AllReadyH.nil)
  ·go_simp
   (refine(HO.out _).mono ?_;rintro e w3 ⟨rfl,hg3⟩;(try (with_reducible replace hg3:=Gr.of_drew hg3));have hsz3:=hg3.size;(try simp at hsz3);have hy3_0:mb<w3.heap.size:=(by omega);obtain ⟨hc3,hf3⟩:=hg3.cells;have HG3:=Lib.hid hg3;clear hg3)
   (try dsimp only)
   refine hK.out _ _ ?_ (fun hQ1=>?_)
   ·(first|exact trivial|((try dsimp only);simp [go_sem, *]))
   clear hK K hHeld
   try simp only [pS]
   refine wpAnyH_ready (rs:= [3,7]) (by kernel_rfl) (by simp) ?_
   refine AllReadyH.cons rfl (fun K hK=>?_) (AllReadyH.cons rfl (fun K hK=>?_) AllReadyH.nil)
   ·go_simp
    (refine(HTA.out _ (by(with_reducible (repeat' (first|exact Gr.refl _ _|refine Gr.drew ?_|refine Gr.setCell ?_ ?_ _|refine Gr.alloc ?_ ?_ _|refine Gr.trans ?_ (Gr.mono HG3.out ?_)|omega|(simp;done)|(simp;omega)))))).mono ?_;rintro e w4 ⟨ax,ay,az,cx,cy,cz,rfl,hT4,hg4⟩;(try (with_reducible replace hg4:=Gr.of_drew hg4));have hsz4:=hg4.size;(try simp at hsz4);have hy4:mb<w4.heap.size:=(by omega);(try (have hy5:w2.heap.size<w4.heap.size:=(by omega)));obtain ⟨hc4,hf4⟩:=hg4.cells;have HT4:=Lib.hid hT4;have HG4:=Lib.hid hg4;clear hT4 hg4)
    (try dsimp only)
    refine hK.out _ _ ?_ (fun hQ2=>?_)
    ·(first|exact trivial|((try dsimp only);simp [go_sem, *]))
    clear hK K hQ1
    try simp only [pS]
    refine tk 4 (some 21) (.tuple #[.agg #[.int .i64 (o:Int),.int .i64 (N:Int),.slice ax m.tris.length cx,.slice ay N cy,.slice az E cz],.int .i64 0]) ?_
    try simp only [pS]
    refine tk 5 (some 26) (.agg #[.int .i64 (o:Int),.int .i64 (N:Int),.slice ax m.tris.length cx,.slice ay N cy,.slice az E cz]) ?_
    try simp only [pS]
    refine tk 6 (some 27) (.int .i64 0) ?_
    try simp only [pS]
    refine rd 7 (fun K hK=>?_)
    go_simp
    (try dsimp only)
    refine hK.out _ _ ?_ (fun hQ3=>?_)
    ·(first|exact trivial|((try dsimp only);simp [go_sem, *]))
    clear hK K hQ2
    try simp only [pS]
    refine rd 8 (fun K hK=>?_)
    go_simp
    (try dsimp only)
    refine hK.out _ _ ?_ (fun hQ4=>?_)
    ·(first|exact trivial|((try dsimp only);simp [go_sem, *]))
    clear hK K hQ3
    try simp only [pS]
    refine rd 9 (fun K hK=>?_)
    go_simp
    (try dsimp only)
    refine hK.out _ _ ?_ (fun hQ5=>?_)
    ·(first|exact trivial|((try dsimp only);simp [go_sem, *]))
    clear hK K hQ4
    try simp only [pS]
    refine wpAnyH_done (by kernel_rfl) ?_ _
    go_wp2_with fail
    go_meet
    refine⟨w4.heap.size,ax,ay,az,cx,cy,cz,rfl,rfl,by(with_reducible (repeat' (first|(refine VB.new' ?_;exact(by first|omega|(simp;done)|(simp;omega)))|apply VB.put2|apply VB.put3|apply VB.put5|refine VB.drew ?_|refine VB.far ?_ ?_ _|refine VB.alloc ?_ _|omega|(simp;done)|(simp;omega)))),(HT4.out.gr (by(with_reducible (repeat' (first|exact Gr.refl _ _|refine Gr.drew ?_|refine Gr.setCell ?_ ?_ _|refine Gr.alloc ?_ ?_ _|omega|(simp;done)|(simp;omega)))))).mono (by omega),by omega,by(with_reducible (repeat' (first|exact Gr.refl _ _|refine Gr.drew ?_|refine Gr.setCell ?_ ?_ _|refine Gr.alloc ?_ ?_ _|refine Gr.trans ?_ (Gr.mono HG4.out ?_)|refine Gr.trans ?_ (Gr.mono HG3.out ?_)|omega|(simp;done)|(simp;omega))))⟩
   ·go_simp
    (try dsimp only)
    refine hK.out _ _ ?_ (fun hQ2=>?_)
    ·(first|exact trivial|((try dsimp only);simp [go_sem, *]))
    clear hK K hQ1
    try simp only [pS]
    refine rd 3 (fun K hK=>?_)
    go_simp
    (refine(HTA.out _ (by(with_reducible (repeat' (first|exact Gr.refl _ _|refine Gr.drew ?_|refine Gr.setCell ?_ ?_ _|refine Gr.alloc ?_ ?_ _|refine Gr.trans ?_ (Gr.mono HG3.out ?_)|omega|(simp;done)|(simp;omega)))))).mono ?_;rintro e w4 ⟨ax,ay,az,cx,cy,cz,rfl,hT4,hg4⟩;(try (with_reducible replace hg4:=Gr.of_drew hg4));have hsz4:=hg4.size;(try simp at hsz4);have hy4:mb<w4.heap.size:=(by omega);(try (have hy5:w2.heap.size<w4.heap.size:=(by omega)));obtain ⟨hc4,hf4⟩:=hg4.cells;have HT4:=Lib.hid hT4;have HG4:=Lib.hid hg4;clear hT4 hg4)
    (try dsimp only)
    refine hK.out _ _ ?_ (fun hQ3=>?_)
    ·(first|exact trivial|((try dsimp only);simp [go_sem, *]))
    clear hK K hQ2
    try simp only [pS]
    refine tk 4 (some 21) (.tuple #[.agg #[.int .i64 (o:Int),.int .i64 (N:Int),.slice ax m.tris.length cx,.slice ay N cy,.slice az E cz],.int .i64 0]) ?_
    try simp only [pS]
    refine tk 5 (some 26) (.agg #[.int .i64 (o:Int),.int .i64 (N:Int),.slice ax m.tris.length cx,.slice ay N cy,.slice az E cz]) ?_
    try simp only [pS]
    refine tk 6 (some 27) (.int .i64 0) ?_
    try simp only [pS]
    refine rd 8 (fun K hK=>?_)
    go_simp
    (try dsimp only)
    refine hK.out _ _ ?_ (fun hQ4=>?_)
    ·(first|exact trivial|((try dsimp only);simp [go_sem, *]))
    clear hK K hQ3
    try simp only [pS]
    refine rd 9 (fun K hK=>?_)
    go_simp
    (try dsimp only)
    refine hK.out _ _ ?_ (fun hQ5=>?_)
    ·(first|exact trivial|((try dsimp only);simp [go_sem, *]))
    clear hK K hQ4
    try simp only [pS]
    refine wpAnyH_done (by kernel_rfl) ?_ _
    go_wp2_with fail
    go_meet
    refine⟨w3.heap.size,ax,ay,az,cx,cy,cz,rfl,rfl,by(with_reducible (repeat' (first|(refine VB.new' ?_;exact(by first|omega|(simp;done)|(simp;omega)))|apply VB.put2|apply VB.put3|apply VB.put5|refine VB.drew ?_|refine VB.far ?_ ?_ _|refine VB.alloc ?_ _|refine VB.gr ?_ HG4.out ?_|omega|(simp;done)|(simp;omega)))),(HT4.out.kp (Kp.sets w4 (w3.heap.size) 0 [.int .i64 (o:Int),.int .i64 (N:Int),.slice ax m.tris.length cx,.slice ay N cy,.slice az E cz]) (fun g e=>by have:=Option.some.inj e;simp;omega)).mono (by simp;omega),by omega,by(with_reducible (repeat' (first|exact Gr.refl _ _|refine Gr.drew ?_|refine Gr.setCell ?_ ?_ _|refine Gr.alloc ?_ ?_ _|refine Gr.trans ?_ (Gr.mono HG4.out ?_)|refine Gr.trans ?_ (Gr.mono HG3.out ?_)|omega|(simp;done)|(simp;omega))))⟩
  ·go_simp
   (try dsimp only)
   refine hK.out _ _ ?_ (fun hQ1=>?_)
   ·(first|exact trivial|((try dsimp only);simp [go_sem, *]))
   clear hK K hHeld
   try simp only [pS]
   refine rd 2 (fun K hK=>?_)
   go_simp
   (refine(HO.out _).mono ?_;rintro e w3 ⟨rfl,hg3⟩;(try (with_reducible replace hg3:=Gr.of_drew hg3));have hsz3:=hg3.size;(try simp at hsz3);have hy3_0:mb<w3.heap.size:=(by omega);have hy3_1:w2.heap.size<w3.heap.size:=(by omega);obtain ⟨hc3,hf3⟩:=hg3.cells;have HG3:=Lib.hid hg3;clear hg3)
   (try dsimp only)
   refine hK.out _ _ ?_ (fun hQ2=>?_)
   ·(first|exact trivial|((try dsimp only);simp [go_sem, *]))
   clear hK K hQ1
   try simp only [pS]
   refine rd 3 (fun K hK=>?_)
   go_simp
   (refine(HTA.out _ (by(with_reducible (repeat' (first|exact Gr.refl _ _|refine Gr.drew ?_|refine Gr.setCell ?_ ?_ _|refine Gr.alloc ?_ ?_ _|refine Gr.trans ?_ (Gr.mono HG3.out ?_)|omega|(simp;done)|(simp;omega)))))).mono ?_;rintro e w4 ⟨ax,ay,az,cx,cy,cz,rfl,hT4,hg4⟩;(try (with_reducible replace hg4:=Gr.of_drew hg4));have hsz4:=hg4.size;(try simp at hsz4);have hy4:mb<w4.heap.size:=(by omega);(try (have hy5:w2.heap.size<w4.heap.size:=(by omega)));obtain ⟨hc4,hf4⟩:=hg4.cells;have HT4:=Lib.hid hT4;have HG4:=Lib.hid hg4;clear hT4 hg4)
   (try dsimp only)
   refine hK.out _ _ ?_ (fun hQ3=>?_)
   ·(first|exact trivial|((try dsimp only);simp [go_sem, *]))
   clear hK K hQ2
   try simp only [pS]
   refine tk 4 (some 21) (.tuple #[.agg #[.int .i64 (o:Int),.int .i64 (N:Int),.slice ax m.tris.length cx,.slice ay N cy,.slice az E cz],.int .i64 0]) ?_
   try simp only [pS]
   refine tk 5 (some 26) (.agg #[.int .i64 (o:Int),.int .i64 (N:Int),.slice ax m.tris.length cx,.slice ay N cy,.slice az E cz]) ?_
   try simp only [pS]
   refine tk 6 (some 27) (.int .i64 0) ?_
   try simp only [pS]
   refine rd 8 (fun K hK=>?_)
   go_simp
   (try dsimp only)
   refine hK.out _ _ ?_ (fun hQ4=>?_)
   ·(first|exact trivial|((try dsimp only);simp [go_sem, *]))
   clear hK K hQ3
   try simp only [pS]
   refine rd 9 (fun K hK=>?_)
   go_simp
   (try dsimp only)
   refine hK.out _ _ ?_ (fun hQ5=>?_)
   ·(first|exact trivial|((try dsimp only);simp [go_sem, *]))
   clear hK K hQ4
   try simp only [pS]
   refine wpAnyH_done (by kernel_rfl) ?_ _
   go_wp2_with fail
   go_meet
   refine⟨w2.heap.size,ax,ay,az,cx,cy,cz,rfl,rfl,by(with_reducible (repeat' (first|(refine VB.new' ?_;exact(by first|omega|(simp;done)|(simp;omega)))|apply VB.put2|apply VB.put3|apply VB.put5|refine VB.drew ?_|refine VB.far ?_ ?_ _|refine VB.alloc ?_ _|refine VB.gr ?_ HG4.out ?_|refine VB.gr ?_ HG3.out ?_|omega|(simp;done)|(simp;omega)))),(HT4.out.kp (Kp.sets w4 (w2.heap.size) 0 [.int .i64 (o:Int),.int .i64 (N:Int),.slice ax m.tris.length cx,.slice ay N cy,.slice az E cz]) (fun g e=>by have:=Option.some.inj e;omega)).mono (by omega),by omega,by(with_reducible (repeat' (first|exact Gr.refl _ _|refine Gr.drew ?_|refine Gr.setCell ?_ ?_ _|refine Gr.alloc ?_ ?_ _|refine Gr.trans ?_ (Gr.mono HG4.out ?_)|refine Gr.trans ?_ (Gr.mono HG3.out ?_)|omega|(simp;done)|(simp;omega))))⟩
 case rest=>
  obtain ⟨w6,hw6⟩:∃q,q=wc:=⟨_,rfl⟩
  subst hw6
  obtain ⟨tb,ax,ay,az,cx,cy,cz,rfl,rfl,hTV,hTM,htb,hgb⟩:=hcut
  have hszb:=hgb.size
  have HTV:=Lib.hid hTV
  have HTM:=Lib.hid hTM
  have HG6:=Lib.hid (HG.out.trans (hgb.mono (by omega)))
  have HV6:=Lib.hid (HV.out.gr hgb hmb)
  have HMS6:=Lib.hid (HMS.out.gr hgb)
  clear c0 c1 c2 HTA hTV hTM hgb HG HV HMS
  refine(by assumption:∀(a:Act) (w:World),_→_) _ _ ?_
  exact pl3 w w6 two m o N E mb tb HO1.out ap at_ as_ ax ay az cp ct cs cx cy cz HG6.out.below HV6.out HTV.out HMS6.out (HTM.out.mono (Nat.zero_le _)) (HSD.out.gr HG6.out) HNE.out hT hP Hhnd.out Hhat.out Hhrow.out Hhall.out Hhg.out Hhpt.out hne0
end Go.Proofs.YtjijceliboaeaaaGreatDoor
namespace Go.Proofs.YtjijceliboaeaaaGreatDoor
open Go.RowKit Gus Go.Maps
theorem hp_midQ (a b:Pt) (ha:hp a≤1000000) (hb:hp b≤1000000):hp (midP a b)≤1000000000:=by
 unfold hp at ha hb
 have h1:=hw_add a.x b.x
 have h2:=hw_add a.y b.y
 have h3:=hw_mul (a.x+b.x) (1 / 2)
 have h4:=hw_mul (a.y+b.y) (1 / 2)
 have h5:hw ((1:Rat) / 2)≤1000:=by decide+kernel
 unfold hp midP
 simp only
 omega
theorem RawM.hpT (x:RawM):∀p∈x.mesh.pts,hp p≤10:=(x.net.goodO x.det x.smallK x.d_pos.1 x.d_pos.2 (sd:=x.sd)).hp_
theorem RawM.atHq (x:RawM) (o:Nat):∀p∈atM o x.mesh,hp p≤1000000000:=by
 intro p hp'
 have h0:=x.hpT
 unfold atM at hp'
 split at hp'
 ·rcases List.mem_append.1 hp' with h|h
  ·have:=h0 p h;omega
  ·obtain ⟨e,he,rfl⟩:=List.mem_map.1 h
   have he':e∈esM x.tris:=he
   obtain ⟨ea,eb,hEa,hEb,la,lb⟩:=esM_Ends x.good e he'
   have q1:ea<x.mesh.pts.length:=by rw [x.ptsN];exact la
   have q2:eb<x.mesh.pts.length:=by rw [x.ptsN];exact lb
   unfold midE
   rw [hEa,hEb,Int.toNat_natCast,Int.toNat_natCast,List.getD_eq_getElem?_getD,List.getD_eq_getElem?_getD,List.getElem?_eq_getElem q1,List.getElem?_eq_getElem q2]
   have u1:=h0 _ (List.getElem_mem q1)
   have u2:=h0 _ (List.getElem_mem q2)
   exact hp_midQ _ _ (by simp only [Option.getD_some];omega) (by simp only [Option.getD_some];omega)
 ·have:=h0 p hp';omega
theorem places_true (x:RawM) (hx:x.Ok) (c:Value) (two:Bool) (w:World) (hS:BS w c x.bs) (hSd:SdW w):
  Calls Tryz.prog 3 #[.agg #[.int .u8 (x.nx:Int),.int .u8 (x.ny:Int),c,.int .i8 x.m0,.int .i8 x.m1,.int .i8 x.m2,.int .i8 x.m3,.int .u8 (x.den:Int),.int .u8 (x.fi:Int)],.bool two] w (fun e w'=>e= .returned (.bool true)∧Below w.heap.size w w'):=by
 have ho:ordN two=1∨ordN two=2:=by unfold ordN;cases two<;>simp
 obtain ⟨cv,cc,rfl⟩:=hS.at
 exact law_places x.mesh (ordN two) two rfl x.nx x.ny x.den x.fi x.bs.length cc x.m0 x.m1 x.m2 x.m3 cv w hSd (Nat.le_trans x.trisN (by omega)) (Nat.le_trans x.fewN (by omega)) x.goodA.one
  (fun W hW=>m_Mesh x hx _ W (hS.gr hW)) (fun W a b c h=>m_Of x (ordN two) ho W a b c h) (at_nodup x (ordN two)) (x.atHq (ordN two)) (fun t ht q k h=>row_at x (ordN two) ho ht h) (fun k hk=>row_all x (ordN two) ho hk) x.goodM (fun p hp=>Nat.le_trans (x.hpT p hp) (by omega))
end Go.Proofs.YtjijceliboaeaaaGreatDoor
