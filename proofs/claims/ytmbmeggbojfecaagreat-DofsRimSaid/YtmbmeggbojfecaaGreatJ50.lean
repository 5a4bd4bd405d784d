/-
  Part 50 of the proof: LawP LawV FinR.
-/
import Derived.Test.YtmbmeggbojfecaaGreatJ49
import Derived.Test.YtmbmeggbojfecaaGreatJ46
set_option linter.unusedSimpArgs false
set_option linter.unusedVariables false
namespace Go.Proofs.YtmbmeggbojfecaaGreat
open Go.RowKit Gus Go.Maps
theorem VB.bl {w w':World} {g:Nat} {cs:List Value} (h:VB w g cs) (hb:Below w.heap.size w w'):VB w' g cs:=by
 have h2:=VB.gr h (below_lift hb) h.lt
 exact⟨h2.c,h2.f,h2.lt⟩
theorem on_lt {o:Nat} {m:Msh} (ls:List Tri) (ho:o=1∨o=2) (h:∀s∈ls,SideOk o m s):∀y∈onS o (numM o m) ((esM m.tris).map abE) ls,y<numM o m:=by
 intro y hy
 rw [mem_onS]at hy
 obtain ⟨s,hs,hy⟩:=hy
 obtain ⟨_,h1,h2,i,hi,hno,-⟩:=h s hs
 unfold sideD sideL at hy
 rw [hno,Int.toNat_natCast,List.length_map]at hy
 rcases ho with rfl|rfl
 ·simp [numM]at hy ⊢
  omega
 ·simp [numM]at hy ⊢
  omega
theorem strict {R:List Nat} (h:R.Pairwise (· ≤·)) (hn:R.Nodup):∀i (hi:i+1<R.length),R[i] < R[i+1]:=by
 intro i hi
 have h1:=List.pairwise_iff_getElem.1 h i (i+1) (by omega) hi (by omega)
 have h2:=List.pairwise_iff_getElem.1 (show R.Pairwise (· ≠·)from hn) i (i+1) (by omega) hi (by omega)
 omega
variable {vv0 vv1 vv2 vv3 vv4 vv5 vv6 vv7 vv8 vv9 vv10 vv11 vv12 vv13 vv14 vv15 vv16 vv17 vv18 vv19 vv20 vv21 vv22 vv23 vv24 vv25 vv26 vv27 vv28 vv29 vv30 vv31 vv32 vv33 vv34 vv35 vv36 vv37 vv38 vv39 vv40 vv41 vv42 vv43 vv44 vv45 vv46 vv47 vv48 vv49 vv50 vv51 vv52 vv53 vv54 vv55 vv56 vv57 vv58 vv59 vv60 vv61 vv62 vv63 vv64 vv65 vv66 vv67 vv68 vv69 vv70 vv71 vv72 vv73 vv74 vv75 vv76 vv77 vv78 vv79 vv80 vv81 vv82 vv83 vv84 vv85 vv86 vv87 vv88 vv89 vv90 vv91 vv92 vv93 vv94 vv95 vv96 vv97 vv98 vv99 vv100 vv101 vv102 vv103 vv104 vv105 vv106 vv107 vv108 vv109 vv110 vv111 vv112 vv113 vv114 vv115 vv116 vv117 vv118 vv119 vv120 vv121 vv122 vv123 vv124 vv125 vv126 vv127 vv128 vv129 vv130 vv131 vv132 vv133 vv134 vv135 vv136 vv137 vv138 vv139 vv140 vv141 vv142 vv143 vv144 vv145 vv146 vv147 vv148 vv149 vv150 vv151 vv152 vv153 vv154 vv155 vv156 vv157 vv158 vv159 vv160 vv161 vv162 vv163 vv164 vv165 vv166 vv167 vv168 vv169 vv170 vv171 vv172 vv173 vv174 vv175 vv176 vv177 vv178 vv179 vv180 vv181 vv182 vv183 vv184 vv185 vv186 vv187 vv188 vv189 vv190 vv191 vv192 vv193 vv194 vv195 vv196 vv197 vv198 vv199 vv200 vv201 vv202 vv203 vv204 vv205 vv206:Value}
set_option maxRecDepth 20000 in
set_option maxHeartbeats 8000000 in
theorem rim7 (w W:World) (two:Bool) (m:Msh) (o N E mb tb mp:Nat) (aa:Option Addr) (R:List Nat) (ho:o=ordN two) (ap at_ as_ ax ay az:Option Addr) (cp ct cs cx cy cz:Nat) (hb:Below w.heap.size w W) (hV:VB W mb [.slice ap m.pts.length cp,.slice at_ m.tris.length ct,.slice as_ m.sides.length cs]) (hT:VB W tb [.int .i64 (o:Int),.int .i64 (N:Int),.slice ax m.tris.length cx,.slice ay N cy,.slice az E cz]) (hP:SR pC 10 57 W 0 (.slice ap m.pts.length cp) m.pts) (hS:SR triC 3 63 W 0 (.slice as_ m.sides.length cs) m.sides) (hA:SR pC 10 57 W 0 (.slice ay N cy) (atM o m)) (hZ:SR i2C 2 86 W 0 (.slice az E cz) ((esM m.tris).map abE)) (hNE:numM o m=N∧(esM m.tris).length=E) (hTl:m.tris.length≤1000) (hPl:m.pts.length≤1000) (hSl:m.sides.length≤200000)
  (hpt:∀p∈m.pts,hp p≤1000000000) (hat:∀p∈atM o m,hp p≤1000000000) (hsd:∀s∈m.sides,SideOk o m s) (hlaw:∀(k:Nat) (hk:k<(atM o m).length),(m.sides.any (onS3 m (atM o m)[k]))=decide (k∈onS o (numM o m) ((esM m.tris).map abE) m.sides)) (hI:SR iC 1 3 W 0 (.slice aa R.length R.length) R) (hRP:R.Perm (onS o N ((esM m.tris).map abE) m.sides)) (hRS:R.Pairwise (· ≤·)) (hM:MIB W mp [])
  (hPo:∀g,(Value.slice ap m.pts.length cp).ownBlock=some g→g≠mp) (hSo:∀g,(Value.slice as_ m.sides.length cs).ownBlock=some g→g≠mp) (hAo:∀g,(Value.slice ay N cy).ownBlock=some g→g≠mp) (hZo:∀g,(Value.slice az E cz).ownBlock=some g→g≠mp) (hIo:∀g,(Value.slice aa R.length R.length).ownBlock=some g→g≠mp) (hVo:mb≠mp) (hTo:tb≠mp) (hwmp:w.heap.size≤mp):
  Code.wp Tryz.prog (tlR 7) (bodyPost Tryz.prog Tryz.f5 (fun e w'=>e= .returned (.bool true)∧Below w.heap.size w w')) {tmps:= #[vv0,.bool two,vv2,vv3,vv4,.pointer (some ⟨mb,0,none⟩),.pointer (some ⟨tb,0,none⟩),vv7,.slice aa R.length R.length,.map (some mp),vv10,vv11,vv12,vv13,vv14,vv15,vv16,vv17,vv18,vv19,vv20,vv21,vv22,vv23,vv24,vv25,vv26,vv27,vv28,vv29,vv30,vv31,vv32,vv33,vv34,vv35,vv36,vv37,vv38,vv39,vv40,vv41,vv42,vv43,vv44,vv45,vv46,vv47,vv48,vv49,vv50,vv51,vv52,vv53,vv54,vv55,vv56,vv57,vv58,vv59,vv60,vv61,vv62,vv63,vv64,vv65,vv66,vv67,vv68,vv69,vv70,vv71,vv72,vv73,vv74,vv75,vv76,vv77,vv78,vv79,vv80,vv81,vv82,vv83,vv84,vv85,vv86,vv87,vv88,vv89,vv90,vv91,vv92,vv93,vv94,vv95,vv96,vv97,vv98,vv99,vv100,vv101,vv102,vv103,vv104,vv105,vv106,vv107,vv108,vv109,vv110,vv111,vv112,vv113,vv114,vv115,vv116,vv117,vv118,vv119,vv120,vv121,vv122,vv123,vv124,vv125,vv126,vv127,vv128,vv129,vv130,vv131,vv132,vv133,vv134,vv135,vv136,vv137,vv138,vv139,vv140,vv141,vv142,vv143,vv144,vv145,vv146,vv147,vv148,vv149,vv150,vv151,vv152,vv153,vv154,vv155,vv156,vv157,vv158,vv159,vv160,vv161,vv162,vv163,vv164,vv165,vv166,vv167,vv168,vv169,vv170,vv171,vv172,vv173,vv174,vv175,vv176,vv177,vv178,vv179,vv180,vv181,vv182,vv183,vv184,vv185,vv186,vv187,vv188,vv189,vv190,vv191,vv192,vv193,vv194,vv195,vv196,vv197,vv198,vv199,vv200,vv201,vv202,vv203,vv204,vv205,vv206],defers:= []} W:=by
 have ho2:o=1∨o=2:=by rw [ho];unfold ordN;cases two<;>simp
 have hN5:N≤5000:=by have:=esM_len m.tris;rw [←hNE.1];unfold numM;split<;>omega
 have hE5:E≤5000:=by have:=esM_len m.tris;rw [←hNE.2];omega
 have HO:=Lib.hid ho
 have HO2:=Lib.hid ho2
 have HBW:=Lib.hid hb
 have HV:=Lib.hid hV
 have HT:=Lib.hid hT
 have HP:=Lib.hid hP
 have HS:=Lib.hid hS
 have HA:=Lib.hid hA
 have HZ:=Lib.hid hZ
 have HNE:=Lib.hid hNE
 have HPT:=Lib.hid hpt
 have HAT:=Lib.hid hat
 have HSD:=Lib.hid hsd
 have HLAW:=Lib.hid hlaw
 have hvl:=hV.lt
 have htl:=hT.lt
 have hRl:R.length≤600000:=by have:=onS_len o N ((esM m.tris).map abE) m.sides;rw [hRP.length_eq];omega
 have HRL:=Lib.hid (show ∀(i:Nat) (hi:i<R.length),R[i] < N from fun i hi=>by have h1:=hRP.mem_iff.1 (List.getElem_mem hi);rw [←hNE.1]at h1 ⊢;exact on_lt m.sides ho2 hsd _ h1)
 have HRS:=Lib.hid (strict hRS (hRP.nodup_iff.2 (onS_nodup _ _ _ _)))
 have HRM:=Lib.hid (show ∀k,k∈insAll [] R↔k∈onS o (numM o m) ((esM m.tris).map abE) m.sides from fun k=>by rw [mem_insAll,hRP.mem_iff,hNE.1];simp)
 have HI:=Lib.hid hI
 have HPO:=Lib.hid hPo
 have HSO:=Lib.hid hSo
 have HAO:=Lib.hid hAo
 have HZO:=Lib.hid hZo
 have HIO:=Lib.hid hIo
 have HM:=Lib.hid hM
 have Y1:=Lib.hid (hT.c 1 _ rfl)
 clear ho ho2 hb hV hT hP hS hA hZ hNE hpt hat hsd hlaw
 clear hRP hRS hI hPo hSo hAo hZo hIo hM
 refine wp_seq_k (fun K1 hK1=>?_)
 have hK19:∀a w',Met (fun a w'=>Code.wp Tryz.prog (tlR 13) (bodyPost Tryz.prog Tryz.f5 (fun e w'=>e= .returned (.bool true)∧Below w.heap.size w w')) a w') a w'→K1 a w':=fun a w' h=>hK1 a w' h
 clear hK1
 have hml:=HM.out.lt
 go_wp2
 go_loopw [10] (fun s wr=> ∃j:Nat,j≤R.length∧s= .int .i64 j∧Hid (MIB wr mp (insAll [] (R.take j)))∧Hid (Kp W wr (some mp))) (fun s _=>R.length - (intOf s).toNat)
 case atStart=>exact⟨0,Nat.zero_le _,rfl,HM,Lib.hid ((Gr.refl _ _).kp _)⟩
 case round=>
  clear HM
  obtain ⟨j,hj,rfl,HM,HK⟩:=hrel
  have hszj:=HK.out.g.size
  obtain ⟨LJ,hLJ⟩:∃q,insAll [] (R.take j)=q:=⟨_,rfl⟩
  have hLJn:LJ.length≤700000:=by have:=insAll_len [] (R.take j);rw [hLJ]at this;simp at this;omega
  rw [hLJ]at HM
  replace hLJ:=Lib.hid hLJ
  have hmlr:=HM.out.lt
  by_cases hlt:j<R.length
  ·have q0:(j:Int)<(R.length:Int):=by omega
   have hj0:(0:Int)≤(j:Int):=by omega
   obtain ⟨d,hd⟩:∃d,R[j]=d:=⟨_,rfl⟩
   have hdN:=HRL.out j hlt
   rw [hd]at hdN
   have hdl:d<9223372036854775808:=by omega
   have hnxj:Hid (insAll [] (R.take (j+1))=ins LJ d):=Lib.hid (by rw [List.take_add_one,List.getElem?_eq_getElem hlt,hd];simp only [Option.toList_some];rw [insAll_snoc,hLJ.out])
   have HADD:=Lib.hid (MI.add (w:=wr.drew) HM.out d hdl (by omega))
   have y1:=(HK.out.cell (b:=tb) (o:=1) htl (fun e=>hTo (Option.some.inj e))).trans Y1.out
   have htbr:tb<wr.heap.size:=by omega
   obtain ⟨ga,ca,e4,_,_,_,hsh,hR⟩:=HI.out.block (by intro e;rw [e]at hlt;simp at hlt)
   injection e4 with e4 e6 e5
   clear e6 e5
   subst e4
   have hga:=hsh.lt
   have hgo:=HIO.out ga rfl
   have u0:=hR.fI hlt hd
   rw [←HK.out.cell (b:=ga) (o:=j) hga (fun e=>hgo (Option.some.inj e))]at u0
   have hgar:ga<wr.heap.size:=by omega
   have z1:(d:Int)<(N:Int):=by omega
   have z2:¬(d:Int)<0:=by omega
   have z3:decide ((d:Int)<0)=false:=decide_eq_false z2
   have z4:decide ((N:Int)≤(d:Int))=false:=decide_eq_false (by omega)
   by_cases hj9:j=0
   ·have z5:decide ((0:Int)<(j:Int))=false:=decide_eq_false (by omega)
    have z6:¬(0:Int)<(j:Int):=by omega
    have z12:¬0<j:=by omega
    clear hR hsh hd hj9
    go_upto_region 10 with fail
    refine wp_region_held_drew (S:=(fun w'=>w'.cell? ⟨tb,1,none⟩=some (.int .i64 (N:Int))∧w'.cell? ⟨ga,j,none⟩=some (.int .i64 (d:Int)))) (by kernel_rfl) ?_ (fun hHeld=>?_)
    ·simp [go_sem, *]
    refine tk 0 (some 40) (.slice (some ⟨ga,0,none⟩) R.length R.length) ?_
    try simp only [pS]
    refine tk 1 (some 41) (.int .i64 (j:Int)) ?_
    try simp only [pS]
    refine tk 2 (some 42) (.pointer (some ⟨ga,j,none⟩)) ?_
    try simp only [pS]
    refine tk 3 (some 43) (.int .i64 (d:Int)) ?_
    try simp only [pS]
    refine tk 4 (some 44) (.bool false) ?_
    try simp only [pS]
    refine tk 5 (some 45) (.bool false) ?_
    try simp only [pS]
    refine tk 6 (some 46) (.slice (some ⟨ga,0,none⟩) R.length R.length) ?_
    try simp only [pS]
    refine tk 7 (some 47) (.int .i64 (j:Int)) ?_
    try simp only [pS]
    refine tk 8 (some 48) (.pointer (some ⟨ga,j,none⟩)) ?_
    try simp only [pS]
    refine tk 9 (some 49) (.int .i64 (d:Int)) ?_
    try simp only [pS]
    refine tk 10 (some 50) (.pointer (some ⟨tb,1,none⟩)) ?_
    try simp only [pS]
    refine tk 11 (some 51) (.int .i64 (N:Int)) ?_
    try simp only [pS]
    refine tk 12 (some 52) (.bool false) ?_
    try simp only [pS]
    refine tk 13 (some 53) (.bool false) ?_
    try simp only [pS]
    refine tk 14 (some 54) (.bool false) ?_
    try simp only [pS]
    refine tk 15 (some 55) (.int .i64 (j:Int)) ?_
    try simp only [pS]
    refine tk 16 (some 56) (.bool false) ?_
    try simp only [pS]
    refine tk 17 (some 57) (.bool false) ?_
    try simp only [pS]
    refine tu 18 (some 58) (undef) ?_
    try simp only [pS]
    refine tu 19 (some 59) (undef) ?_
    try simp only [pS]
    refine tu 20 (some 60) (undef) ?_
    try simp only [pS]
    refine tu 21 (some 61) (undef) ?_
    try simp only [pS]
    refine tu 22 (some 62) (undef) ?_
    try simp only [pS]
    refine tu 23 (some 63) (undef) ?_
    try simp only [pS]
    refine tu 24 (some 64) (undef) ?_
    try simp only [pS]
    refine tu 25 (some 65) (undef) ?_
    try simp only [pS]
    refine tu 26 (some 66) (undef) ?_
    try simp only [pS]
    refine tu 27 (some 67) (undef) ?_
    try simp only [pS]
    refine tk 28 (some 68) (.bool false) ?_
    try simp only [pS]
    refine tk 29 (some 69) (.bool false) ?_
    try simp only [pS]
    refine wpAnyH_done (by kernel_rfl) ?_ _
    go_wp2_with (at_mapUpdate;refine wpM_upd _ (b:=mp) rfl _ _ _ rfl rfl HADD.out ?_;rintro w3 ⟨hmi3,hkp3,hsz3⟩;have HMI3:=Lib.hid hmi3;have HKP3:=Lib.hid hkp3;clear hmi3 hkp3)
    go_roundw
    case rel=>exact⟨j+1,by omega,by go_num,Lib.hid (by rw [hnxj.out];exact HMI3.out),Lib.hid ((HK.out.trans ((show Gr wr.heap.size wr wr.drew from by(with_reducible (repeat' (first|exact Gr.refl _ _|refine Gr.drew ?_|refine Gr.setCell ?_ ?_ _|refine Gr.alloc ?_ ?_ _|omega|(simp;done)|(simp;omega))))).kp _)).trans HKP3.out)⟩
    case measure=>simp [intOf];omega
   ·have z5:decide ((0:Int)<(j:Int))=true:=decide_eq_true (by omega)
    have z6:(0:Int)<(j:Int):=by omega
    have z12:0<j:=by omega
    obtain ⟨jm,hjm⟩:∃q,j=q+1:=⟨j - 1,by omega⟩
    have hst:=HRS.out jm (by omega)
    have hjm1:jm<R.length:=by omega
    obtain ⟨dm,hdm⟩:∃q,R[jm]=q:=⟨_,rfl⟩
    have v0:=hR.fI hjm1 hdm
    rw [←HK.out.cell (b:=ga) (o:=jm) hga (fun e=>hgo (Option.some.inj e))]at v0
    have hlt2:dm<d:=by rw [hdm]at hst;have e:R[jm+1]'(by omega)=d:=(by simp only [hjm]at hd;exact hd);omega
    have z7:IntKind.i64.wrap ((j:Int) - 1)=(jm:Int):=by rw [wrap64_id (by omega) (by omega)];omega
    have z8:decide ((d:Int)≤(dm:Int))=false:=decide_eq_false (by omega)
    have z9:¬(d:Int)≤(dm:Int):=by omega
    have z10:(jm:Int)<(R.length:Int):=by omega
    have z11:(0:Int)≤(jm:Int):=by omega
    clear hR hsh hd hdm hst hjm
    go_upto_region 10 with fail
    refine wp_region_held_drew (S:=(fun w'=>w'.cell? ⟨tb,1,none⟩=some (.int .i64 (N:Int))∧w'.cell? ⟨ga,j,none⟩=some (.int .i64 (d:Int))∧w'.cell? ⟨ga,jm,none⟩=some (.int .i64 (dm:Int)))) (by kernel_rfl) ?_ (fun hHeld=>?_)
    ·simp [go_sem, *]
    refine tk 0 (some 40) (.slice (some ⟨ga,0,none⟩) R.length R.length) ?_
    try simp only [pS]
    refine tk 1 (some 41) (.int .i64 (j:Int)) ?_
    try simp only [pS]
    refine tk 2 (some 42) (.pointer (some ⟨ga,j,none⟩)) ?_
    try simp only [pS]
    refine tk 3 (some 43) (.int .i64 (d:Int)) ?_
    try simp only [pS]
    refine tk 4 (some 44) (.bool false) ?_
    try simp only [pS]
    refine tk 5 (some 45) (.bool false) ?_
    try simp only [pS]
    refine tk 6 (some 46) (.slice (some ⟨ga,0,none⟩) R.length R.length) ?_
    try simp only [pS]
    refine tk 7 (some 47) (.int .i64 (j:Int)) ?_
    try simp only [pS]
    refine tk 8 (some 48) (.pointer (some ⟨ga,j,none⟩)) ?_
    try simp only [pS]
    refine tk 9 (some 49) (.int .i64 (d:Int)) ?_
    try simp only [pS]
    refine tk 10 (some 50) (.pointer (some ⟨tb,1,none⟩)) ?_
    try simp only [pS]
    refine tk 11 (some 51) (.int .i64 (N:Int)) ?_
    try simp only [pS]
    refine tk 12 (some 52) (.bool false) ?_
    try simp only [pS]
    refine tk 13 (some 53) (.bool false) ?_
    try simp only [pS]
    refine tk 14 (some 54) (.bool false) ?_
    try simp only [pS]
    refine tk 15 (some 55) (.int .i64 (j:Int)) ?_
    try simp only [pS]
    refine tk 16 (some 56) (.bool true) ?_
    try simp only [pS]
    refine tk 17 (some 57) (.bool true) ?_
    try simp only [pS]
    refine tk 18 (some 58) (.slice (some ⟨ga,0,none⟩) R.length R.length) ?_
    try simp only [pS]
    refine tk 19 (some 59) (.int .i64 (j:Int)) ?_
    try simp only [pS]
    refine tk 20 (some 60) (.pointer (some ⟨ga,j,none⟩)) ?_
    try simp only [pS]
    refine tk 21 (some 61) (.int .i64 (d:Int)) ?_
    try simp only [pS]
    refine tk 22 (some 62) (.slice (some ⟨ga,0,none⟩) R.length R.length) ?_
    try simp only [pS]
    refine tk 23 (some 63) (.int .i64 (j:Int)) ?_
    try simp only [pS]
    refine tk 24 (some 64) (.int .i64 (jm:Int)) ?_
    try simp only [pS]
    refine tk 25 (some 65) (.pointer (some ⟨ga,jm,none⟩)) ?_
    try simp only [pS]
    refine tk 26 (some 66) (.int .i64 (dm:Int)) ?_
    try simp only [pS]
    refine tk 27 (some 67) (.bool false) ?_
    try simp only [pS]
    refine tk 28 (some 68) (.bool false) ?_
    try simp only [pS]
    refine tk 29 (some 69) (.bool false) ?_
    try simp only [pS]
    refine wpAnyH_done (by kernel_rfl) ?_ _
    go_wp2_with (at_mapUpdate;refine wpM_upd _ (b:=mp) rfl _ _ _ rfl rfl HADD.out ?_;rintro w3 ⟨hmi3,hkp3,hsz3⟩;have HMI3:=Lib.hid hmi3;have HKP3:=Lib.hid hkp3;clear hmi3 hkp3)
    go_roundw
    case rel=>exact⟨j+1,by omega,by go_num,Lib.hid (by rw [hnxj.out];exact HMI3.out),Lib.hid ((HK.out.trans ((show Gr wr.heap.size wr wr.drew from by(with_reducible (repeat' (first|exact Gr.refl _ _|refine Gr.drew ?_|refine Gr.setCell ?_ ?_ _|refine Gr.alloc ?_ ?_ _|omega|(simp;done)|(simp;omega))))).kp _)).trans HKP3.out)⟩
    case measure=>simp [intOf];omega
  ·have hjl:j=R.length:=by omega
   subst hjl
   have hL2:=hLJ.out
   rw [List.take_length]at hL2
   have HLK:=Lib.hid (show ∀k,decide (k∈onS o (numM o m) ((esM m.tris).map abE) m.sides)=decide (k∈LJ)from fun k=>by rw [←hL2];exact decide_eq_decide.2 (HRM.out k).symm)
   clear hL2
   have HVr:=Lib.hid (HV.out.kp HK.out (fun e=>hVo (Option.some.inj e)))
   have HTr:=Lib.hid (HT.out.kp HK.out (fun e=>hTo (Option.some.inj e)))
   have HPr:=Lib.hid (SR.kp HP.out HK.out (fun g e e2=>HPO.out g e (Option.some.inj e2)))
   have HSr:=Lib.hid (SR.kp HS.out HK.out (fun g e e2=>HSO.out g e (Option.some.inj e2)))
   have HAr:=Lib.hid (SR.kp HA.out HK.out (fun g e e2=>HAO.out g e (Option.some.inj e2)))
   have HZr:=Lib.hid (SR.kp HZ.out HK.out (fun g e e2=>HZO.out g e (Option.some.inj e2)))
   go_wp2_with fail
   refine Met.intro ?_
   refine rim13 w wr two m o N E mb tb mp ap at_ as_ ax ay az cp ct cs cx cy cz LJ HVr.out HTr.out HPr.out HSr.out HAr.out (by rw [atM_len];exact HNE.out.1) HM.out (by omega) (by omega) (by omega) (fun s hs=>⟨(HSD.out s hs).2.1,(HSD.out s hs).2.2.1⟩) HPT.out HAT.out (fun k hk=>(HLAW.out k hk).trans (HLK.out k)) (fun W' _ _ _ _ _ _ _ _ _ _ _ _ _ _ _ _ _ _ _ _ _ _ _ _ _ _ _ _ _ _ _ _ _ _ _ _ _ _ _ _ _ _ _ _ _ _ _ _ _ _ _ _ _ _ _ _ _ _ _ _ _ _ _ _ _ _ _ _ _ _ _ _ _ _ _ _ _ _ _ _ _ _ _ _ _ _ _ _ _ _ _ _ _ _ _ _ _ _ _ _ _ _ _ _ _ _ _ _ _ _ _ _ _ _ _ _ _ _ _ _ _ _ _ _ _ _ _ _ _ _ _ _ _ _ _ _ _ _ _ _ _ _ _ _ _ _ _ _ _ _ _ _ _ _ _ _ _ _ _ _ _ _ _ _ _ _ _ _ _ _ _ _ _ _ _ _ _ _ _ _ _ _ _ _ _ _ _ _ _ _ _ _ _ _ _ _ _ _ _ _ _ _ _ hg=>rim23 w W' two m o N E mb tb HO.out ap at_ as_ ax ay az cp ct cs cx cy cz ((HBW.out.trans (HK.out.gr (fun b e=>by have:=Option.some.inj e;omega) (by omega)).below).trans (hg.below.mono (by have:=HBW.out.size;omega))) (HVr.out.gr hg HVr.out.lt) (HTr.out.gr hg HTr.out.lt) (HPr.out.gr hg) (HSr.out.gr hg) (HAr.out.gr hg) (HZr.out.gr hg) HNE.out hTl hPl hSl HPT.out HSD.out)
set_option maxRecDepth 20000 in
set_option maxHeartbeats 8000000 in
theorem rim3 (w W:World) (two:Bool) (m:Msh) (o N E mb tb:Nat) (ho:o=ordN two) (ap at_ as_ ax ay az:Option Addr) (cp ct cs cx cy cz:Nat) (hb:Below w.heap.size w W) (hV:VB W mb [.slice ap m.pts.length cp,.slice at_ m.tris.length ct,.slice as_ m.sides.length cs]) (hT:VB W tb [.int .i64 (o:Int),.int .i64 (N:Int),.slice ax m.tris.length cx,.slice ay N cy,.slice az E cz]) (hP:SR pC 10 57 W 0 (.slice ap m.pts.length cp) m.pts) (hS:SR triC 3 63 W 0 (.slice as_ m.sides.length cs) m.sides) (hA:SR pC 10 57 W 0 (.slice ay N cy) (atM o m)) (hZ:SR i2C 2 86 W 0 (.slice az E cz) ((esM m.tris).map abE)) (hNE:numM o m=N∧(esM m.tris).length=E) (hTl:m.tris.length≤1000) (hPl:m.pts.length≤1000) (hSl:m.sides.length≤200000)
  (hpt:∀p∈m.pts,hp p≤1000000000) (hat:∀p∈atM o m,hp p≤1000000000) (hsd:∀s∈m.sides,SideOk o m s) (hlaw:∀(k:Nat) (hk:k<(atM o m).length),(m.sides.any (onS3 m (atM o m)[k]))=decide (k∈onS o (numM o m) ((esM m.tris).map abE) m.sides)):
  Code.wp Tryz.prog (tlR 3) (bodyPost Tryz.prog Tryz.f5 (fun e w'=>e= .returned (.bool true)∧Below w.heap.size w w')) {tmps:= #[vv0,.bool two,vv2,vv3,vv4,.pointer (some ⟨mb,0,none⟩),.pointer (some ⟨tb,0,none⟩),.int .i64 0,vv8,vv9,vv10,vv11,vv12,vv13,vv14,vv15,vv16,vv17,vv18,vv19,vv20,vv21,vv22,vv23,vv24,vv25,vv26,vv27,vv28,vv29,vv30,vv31,vv32,vv33,vv34,vv35,vv36,vv37,vv38,vv39,vv40,vv41,vv42,vv43,vv44,vv45,vv46,vv47,vv48,vv49,vv50,vv51,vv52,vv53,vv54,vv55,vv56,vv57,vv58,vv59,vv60,vv61,vv62,vv63,vv64,vv65,vv66,vv67,vv68,vv69,vv70,vv71,vv72,vv73,vv74,vv75,vv76,vv77,vv78,vv79,vv80,vv81,vv82,vv83,vv84,vv85,vv86,vv87,vv88,vv89,vv90,vv91,vv92,vv93,vv94,vv95,vv96,vv97,vv98,vv99,vv100,vv101,vv102,vv103,vv104,vv105,vv106,vv107,vv108,vv109,vv110,vv111,vv112,vv113,vv114,vv115,vv116,vv117,vv118,vv119,vv120,vv121,vv122,vv123,vv124,vv125,vv126,vv127,vv128,vv129,vv130,vv131,vv132,vv133,vv134,vv135,vv136,vv137,vv138,vv139,vv140,vv141,vv142,vv143,vv144,vv145,vv146,vv147,vv148,vv149,vv150,vv151,vv152,vv153,vv154,vv155,vv156,vv157,vv158,vv159,vv160,vv161,vv162,vv163,vv164,vv165,vv166,vv167,vv168,vv169,vv170,vv171,vv172,vv173,vv174,vv175,vv176,vv177,vv178,vv179,vv180,vv181,vv182,vv183,vv184,vv185,vv186,vv187,vv188,vv189,vv190,vv191,vv192,vv193,vv194,vv195,vv196,vv197,vv198,vv199,vv200,vv201,vv202,vv203,vv204,vv205,vv206],defers:= []} W:=by
 have ho2:o=1∨o=2:=by rw [ho];unfold ordN;cases two<;>simp
 have hN5:N≤5000:=by have:=esM_len m.tris;rw [←hNE.1];unfold numM;split<;>omega
 have hE5:E≤5000:=by have:=esM_len m.tris;rw [←hNE.2];omega
 have HO:=Lib.hid ho
 have HO2:=Lib.hid ho2
 have HBW:=Lib.hid hb
 have HV:=Lib.hid hV
 have HT:=Lib.hid hT
 have HP:=Lib.hid hP
 have HS:=Lib.hid hS
 have HA:=Lib.hid hA
 have HZ:=Lib.hid hZ
 have HNE:=Lib.hid hNE
 have HPT:=Lib.hid hpt
 have HAT:=Lib.hid hat
 have HSD:=Lib.hid hsd
 have HLAW:=Lib.hid hlaw
 have hvl:=hV.lt
 have htl:=hT.lt
 have HON:=Lib.hid (show Calls Tryz.prog 11 #[.agg #[.int .i64 (o:Int),.int .i64 (N:Int),.slice ax m.tris.length cx,.slice ay N cy,.slice az E cz],.slice as_ m.sides.length cs] W (fun e w'=> ∃(a:Option Addr) (R:List Nat),e= .returned (.slice a R.length R.length)∧R.Perm (onS o N ((esM m.tris).map abE) m.sides)∧R.Pairwise (· ≤·)∧SR iC 1 3 w' W.heap.size (.slice a R.length R.length) R∧Below W.heap.size W w')from by
  have hll:((esM m.tris).map abE).length=E:=by rw [List.length_map];exact HNE.out.2
  refine(df_On o N (.slice ax m.tris.length cx) (.slice ay N cy) (.slice az E cz) (.slice as_ m.sides.length cs) ((esM m.tris).map abE) m.sides W HO2.out HZ.out HS.out (by omega) (by omega) (fun e=>by rw [hll,←HNE.out.1,←HNE.out.2];unfold numM;rw [if_pos e];omega) hSl (fun s hs=>(HSD.out s hs).good hPl)).mono ?_
  rintro e w' ⟨v,R,rfl,hR,hRs,⟨hI,a,rfl⟩,hb⟩
  exact⟨a,R,rfl,hR,hRs,hI,hb⟩)
 obtain ⟨t0,t1,t2,t3,t4,-⟩:=HT.out.five
 have x2:=HV.out.c 2 _ rfl
 clear ho ho2 hb hV hT hP hS hA hZ hNE hpt hat hsd hlaw
 refine wp_seq_k (fun K1 hK1=>?_)
 have hK19:∀a w',Met (fun a w'=>Code.wp Tryz.prog (tlR 5) (bodyPost Tryz.prog Tryz.f5 (fun e w'=>e= .returned (.bool true)∧Below w.heap.size w w')) a w') a w'→K1 a w':=fun a w' h=>hK1 a w' h
 clear hK1
 go_wp2_with fail
 refine Met.intro ?_
 refine wp_seq_k (fun K2 hK2=>?_)
 have hK29:∀a w',Met (fun a w'=>Code.wp Tryz.prog (tlR 6) (bodyPost Tryz.prog Tryz.f5 (fun e w'=>e= .returned (.bool true)∧Below w.heap.size w w')) a w') a w'→K2 a w':=fun a w' h=>hK2 a w' h
 clear hK2
 go_wp2_with fail
 refine HON.out.mono ?_
 rintro e w5 ⟨aa,R,rfl,hRP,hRS,hI,hb5⟩
 have hsz5:=hb5.size
 have HRP:=Lib.hid hRP
 have HRS:=Lib.hid hRS
 have HI:=Lib.hid hI
 have HB5:=Lib.hid hb5
 clear hRP hRS hI hb5 t0 t1 t2 t3 t4 x2
 go_wp2_with fail
 refine Met.intro ?_
 have hmm:= @run_makeMap Tryz.prog
 refine wp_seq_k (fun K3 hK3=>?_)
 have hK39:∀a w',Met (fun a w'=>Code.wp Tryz.prog (tlR 7) (bodyPost Tryz.prog Tryz.f5 (fun e w'=>e= .returned (.bool true)∧Below w.heap.size w w')) a w') a w'→K3 a w':=fun a w' h=>hK3 a w' h
 clear hK3
 go_wp2_with fail
 refine Met.intro ?_
 clear hmm
 have hg6:Gr w5.heap.size w5 (w5.alloc (.map #[] 0)):=by(with_reducible (repeat' (first|exact Gr.refl _ _|refine Gr.drew ?_|refine Gr.setCell ?_ ?_ _|refine Gr.alloc ?_ ?_ _|omega|(simp;done)|(simp;omega))))
 have HG6:=Lib.hid hg6
 clear hg6
 have hw5:w.heap.size≤w5.heap.size:=by have:=HBW.out.size;omega
 refine rim7 w (w5.alloc (.map #[] 0)) two m o N E mb tb w5.heap.size aa R HO.out ap at_ as_ ax ay az cp ct cs cx cy cz ((HBW.out.trans (HB5.out.mono HBW.out.size)).trans (HG6.out.below.mono hw5)) ((HV.out.bl HB5.out).alloc _) ((HT.out.bl HB5.out).alloc _) ((HP.out.bl HB5.out).gr HG6.out) ((HS.out.bl HB5.out).gr HG6.out) ((HA.out.bl HB5.out).gr HG6.out) ((HZ.out.bl HB5.out).gr HG6.out) HNE.out hTl hPl hSl HPT.out HAT.out HSD.out HLAW.out ((HI.out.gr HG6.out).mono (Nat.zero_le _)) HRP.out HRS.out (MI.new' _ _ _ rfl)
  (fun g e=>by have:=(HP.out.own_lt e).2;omega) (fun g e=>by have:=(HS.out.own_lt e).2;omega) (fun g e=>by have:=(HA.out.own_lt e).2;omega) (fun g e=>by have:=(HZ.out.own_lt e).2;omega) (fun g e=>by have:=(HI.out.own_lt e).2;omega) (by omega) (by omega) hw5
end Go.Proofs.YtmbmeggbojfecaaGreat
namespace Go.Proofs.YtmbmeggbojfecaaGreat
open Go.RowKit Gus Go.Maps
set_option maxRecDepth 20000 in
set_option maxHeartbeats 8000000 in
theorem law_rim (m:Msh) (o:Nat) (two:Bool) (ho:o=ordN two) (nx ny den fi nb cc:Nat) (m0 m1 m2 m3:Int) (cv:Option Addr) (w:World) (hT:m.tris.length≤1000) (hP:m.pts.length≤1000) (hSd:m.sides.length≤200000)
  (hM:∀W:World,Gr w.heap.size w W→Calls Tryz.prog 6 #[.agg #[.int .u8 (nx:Int),.int .u8 (ny:Int),.slice cv nb cc,.int .i8 m0,.int .i8 m1,.int .i8 m2,.int .i8 m3,.int .u8 (den:Int),.int .u8 (fi:Int)]] W (fun e w'=> ∃a b c,e= .returned (.agg #[a,b,c])∧MS w' W.heap.size a b c m∧Gr W.heap.size W w'))
  (hOf:∀(W:World) a b c,MS W 0 a b c m→Calls Tryz.prog 7 #[.agg #[a,b,c],.int .i64 (o:Int)] W (fun e w'=> ∃x y z,e= .returned (.tuple #[tabV o (numM o m) x y z,.int .i64 0])∧TabM w' W.heap.size o m x y z∧Gr W.heap.size W w'))
  (hpt:∀p∈m.pts,hp p≤1000000000) (hat:∀p∈atM o m,hp p≤1000000000) (hsd:∀s∈m.sides,SideOk o m s) (hlaw:∀(k:Nat) (hk:k<(atM o m).length),(m.sides.any (onS3 m (atM o m)[k]))=decide (k∈onS o (numM o m) ((esM m.tris).map abE) m.sides)):
  Calls Tryz.prog 5 #[.agg #[.int .u8 (nx:Int),.int .u8 (ny:Int),.slice cv nb cc,.int .i8 m0,.int .i8 m1,.int .i8 m2,.int .i8 m3,.int .u8 (den:Int),.int .u8 (fi:Int)],.bool two] w (fun e w'=>e= .returned (.bool true)∧Below w.heap.size w w'):=by
 have HM:=Lib.hid hM
 have HOF:=Lib.hid hOf
 have HO:=Lib.hid (fun W=>ho ▸ law_Order two W)
 have HO1:=Lib.hid ho
 have HPT:=Lib.hid hpt
 have HAT:=Lib.hid hat
 have HSD:=Lib.hid hsd
 have HLAW:=Lib.hid hlaw
 clear hM hOf ho hpt hat hsd hlaw
 go_enter Tryz.func5,Tryz.ntmps5
 go_wp2_with fail
 refine(HM.out _ (by(with_reducible (repeat' (first|exact Gr.refl _ _|refine Gr.drew ?_|refine Gr.setCell ?_ ?_ _|refine Gr.alloc ?_ ?_ _|omega|(simp;done)|(simp;omega)))))).mono ?_
 rintro e w1 ⟨va,vb,vc,rfl,hM,hg1⟩
 have hsz1:=hg1.size
 (try simp at hsz1)
 have HG1:=Lib.hid ((show Gr w.heap.size w (w.alloc (.cells #[.int .u8 (nx:Int),.int .u8 (ny:Int),.slice cv nb cc,.int .i8 m0,.int .i8 m1,.int .i8 m2,.int .i8 m3,.int .u8 (den:Int),.int .u8 (fi:Int)] 26))from by(with_reducible (repeat' (first|exact Gr.refl _ _|refine Gr.drew ?_|refine Gr.setCell ?_ ?_ _|refine Gr.alloc ?_ ?_ _|omega|(simp;done)|(simp;omega))))).trans (hg1.mono (by first|omega|(simp;done)|(simp;omega))))
 obtain ⟨hMp,hMt,hMs⟩:=hM
 obtain ⟨ap,cp,rfl⟩:=hMp.at
 obtain ⟨at_,ct,rfl⟩:=hMt.at
 obtain ⟨as_,cs,rfl⟩:=hMs.at
 have HMS:=Lib.hid (show MS (w1.alloc (.cells #[.slice ap m.pts.length cp,.slice at_ m.tris.length ct,.slice as_ m.sides.length cs] 32)) 0 (.slice ap m.pts.length cp) (.slice at_ m.tris.length ct) (.slice as_ m.sides.length cs) m from(show MS w1 0 _ _ _ m from⟨hMp.mono (Nat.zero_le _),hMt.mono (Nat.zero_le _),hMs.mono (Nat.zero_le _)⟩).gr (by(with_reducible (repeat' (first|exact Gr.refl _ _|refine Gr.drew ?_|refine Gr.setCell ?_ ?_ _|refine Gr.alloc ?_ ?_ _|omega|(simp;done)|(simp;omega))))))
 have HV:=Lib.hid (show VB (w1.alloc (.cells #[.slice ap m.pts.length cp,.slice at_ m.tris.length ct,.slice as_ m.sides.length cs] 32)) w1.heap.size [.slice ap m.pts.length cp,.slice at_ m.tris.length ct,.slice as_ m.sides.length cs]from by(with_reducible (repeat' (first|(refine VB.new' ?_;exact(by first|omega|(simp;done)|(simp;omega)))|apply VB.put2|apply VB.put3|apply VB.put5|refine VB.drew ?_|refine VB.far ?_ ?_ _|refine VB.alloc ?_ _|omega|(simp;done)|(simp;omega)))))
 have HG:=Lib.hid (show Gr w.heap.size w (w1.alloc (.cells #[.slice ap m.pts.length cp,.slice at_ m.tris.length ct,.slice as_ m.sides.length cs] 32))from by(with_reducible (repeat' (first|exact Gr.refl _ _|refine Gr.drew ?_|refine Gr.setCell ?_ ?_ _|refine Gr.alloc ?_ ?_ _|refine Gr.trans ?_ (Gr.mono HG1.out ?_)|omega|(simp;done)|(simp;omega)))))
 have hs2:(w1.alloc (.cells #[.slice ap m.pts.length cp,.slice at_ m.tris.length ct,.slice as_ m.sides.length cs] 32)).heap.size=w1.heap.size+1:=by simp
 clear hMp hMt hMs HG1 hg1
 obtain ⟨N,hN⟩:∃q,numM o m=q:=⟨_,rfl⟩
 obtain ⟨E,hE⟩:∃q,(esM m.tris).length=q:=⟨_,rfl⟩
 have HNE:=Lib.hid (And.intro hN hE)
 clear hN hE
 go_upto_region 2 with fail
 generalize (w1.alloc (.cells #[.slice ap m.pts.length cp,.slice at_ m.tris.length ct,.slice as_ m.sides.length cs] 32))=w2 at *
 have hmb:w1.heap.size<w2.heap.size:=by omega
 have hwm:w.heap.size<w1.heap.size:=by omega
 generalize w1.heap.size=mb at *
 clear hs2 hsz1
 have HTA:=Lib.hid (fun (W:World) (hW:Gr w2.heap.size w2 W)=>(show Calls Tryz.prog 7 #[.agg #[.slice ap m.pts.length cp,.slice at_ m.tris.length ct,.slice as_ m.sides.length cs],.int .i64 (o:Int)] W (fun e w'=> ∃(ax ay az:Option Addr) (cx cy cz:Nat),e= .returned (.tuple #[.agg #[.int .i64 (o:Int),.int .i64 (N:Int),.slice ax m.tris.length cx,.slice ay N cy,.slice az E cz],.int .i64 0])∧TabM w' W.heap.size o m (.slice ax m.tris.length cx) (.slice ay N cy) (.slice az E cz)∧Gr W.heap.size W w')from by
  refine(HOF.out W _ _ _ (HMS.out.gr hW)).mono ?_
  rintro e w' ⟨x,y,z,rfl,hT,hg⟩
  obtain ⟨ax,ay,az,cx,cy,cz,rfl,rfl,rfl⟩:=hT.at
  rw [HNE.out.1,HNE.out.2]at hT
  rw [HNE.out.1,HNE.out.2]
  exact⟨ax,ay,az,cx,cy,cz,rfl,hT,hg⟩))
 clear HOF HM
 have c0:=HV.out.c 0 _ rfl
 have c1:=HV.out.c 1 _ rfl
 have c2:=HV.out.c 2 _ rfl
 go_cut [6,7] (fun s8 s9 wx=> ∃(tb:Nat) (ax ay az:Option Addr) (cx cy cz:Nat),s8= .pointer (some ⟨tb,0,none⟩)∧s9= .int .i64 0∧VB wx tb [.int .i64 (o:Int),.int .i64 (N:Int),.slice ax m.tris.length cx,.slice ay N cy,.slice az E cz]∧TabM wx w2.heap.size o m (.slice ax m.tris.length cx) (.slice ay N cy) (.slice az E cz)∧w2.heap.size≤tb∧Gr w2.heap.size w2 wx)
 case first=>
  refine wp_region_held_drew (S:=(fun w'=>w'.cell? ⟨mb,0,none⟩=some (.slice ap m.pts.length cp)∧w'.cell? ⟨mb,1,none⟩=some (.slice at_ m.tris.length ct)∧w'.cell? ⟨mb,2,none⟩=some (.slice as_ m.sides.length cs))) (by kernel_rfl) ?_ (fun hHeld=>?_)
  ·simp [go_sem, *]
  refine tk 0 (some 21) (.agg #[.slice ap m.pts.length cp,.slice at_ m.tris.length ct,.slice as_ m.sides.length cs]) ?_
  try simp only [pS]
  refine tk 1 (some 22) (.bool two) ?_
  try simp only [pS]
  refine wpAnyH_ready (rs:= [2,7]) (by kernel_rfl) (by simp) ?_
  refine AllReadyH.cons rfl (fun K hK=>?_) (AllReadyH.cons rfl (fun K hK=>?_) AllReadyH.nil)
  ·go_simp
   (refine(HO.out _).mono ?_;rintro e w3 ⟨rfl,hg3⟩;(try (with_reducible replace hg3:=Gr.of_drew hg3));have hsz3:=hg3.size;(try simp at hsz3);have hy3_0:mb<w3.heap.size:=(by omega);obtain ⟨hc3,hf3⟩:=hg3.cells;have HG3:=Lib.hid hg3;clear hg3)
   (try dsimp only)
   refine hK.out _ _ ?_ (fun hQ1=>?_)
   ·(first|exact trivial|((try dsimp only);simp [go_sem, *]))
   clear hK K hHeld
   try simp only [pS]
   refine wpAnyH_ready (rs:= [3,7]) (by kernel_rfl) (by simp) ?_
   refine AllReadyH.cons rfl (fun K hK=>?_) (AllReadyH.cons rfl (fun K hK=>?_) AllReadyH.nil)
   ·go_simp
    (refine(HTA.out _ (by(with_reducible (repeat' (first|exact Gr.refl _ _|refine Gr.drew ?_|refine Gr.setCell ?_ ?_ _|refine Gr.alloc ?_ ?_ _|refine Gr.trans ?_ (Gr.mono HG3.out ?_)|omega|(simp;done)|(simp;omega)))))).mono ?_;rintro e w4 ⟨ax,ay,az,cx,cy,cz,rfl,hT4,hg4⟩;(try (with_reducible replace hg4:=Gr.of_drew hg4));have hsz4:=hg4.size;(try simp at hsz4);have hy4:mb<w4.heap.size:=(by omega);(try (have hy5:w2.heap.size<w4.heap.size:=(by omega)));obtain ⟨hc4,hf4⟩:=hg4.cells;have HT4:=Lib.hid hT4;have HG4:=Lib.hid hg4;clear hT4 hg4)
    (try dsimp only)
    refine hK.out _ _ ?_ (fun hQ2=>?_)
    ·(first|exact trivial|((try dsimp only);simp [go_sem, *]))
    clear hK K hQ1
    try simp only [pS]
    refine tk 4 (some 20) (.tuple #[.agg #[.int .i64 (o:Int),.int .i64 (N:Int),.slice ax m.tris.length cx,.slice ay N cy,.slice az E cz],.int .i64 0]) ?_
    try simp only [pS]
    refine tk 5 (some 25) (.agg #[.int .i64 (o:Int),.int .i64 (N:Int),.slice ax m.tris.length cx,.slice ay N cy,.slice az E cz]) ?_
    try simp only [pS]
    refine tk 6 (some 26) (.int .i64 0) ?_
    try simp only [pS]
    refine rd 7 (fun K hK=>?_)
    go_simp
    (try dsimp only)
    refine hK.out _ _ ?_ (fun hQ3=>?_)
    ·(first|exact trivial|((try dsimp only);simp [go_sem, *]))
    clear hK K hQ2
    try simp only [pS]
    refine rd 8 (fun K hK=>?_)
    go_simp
    (try dsimp only)
    refine hK.out _ _ ?_ (fun hQ4=>?_)
    ·(first|exact trivial|((try dsimp only);simp [go_sem, *]))
    clear hK K hQ3
    try simp only [pS]
    refine rd 9 (fun K hK=>?_)
    go_simp
    (try dsimp only)
    refine hK.out _ _ ?_ (fun hQ5=>?_)
    ·(first|exact trivial|((try dsimp only);simp [go_sem, *]))
    clear hK K hQ4
    try simp only [pS]
    refine wpAnyH_done (by kernel_rfl) ?_ _
    go_wp2_with fail
    go_meet
    refine⟨w4.heap.size,ax,ay,az,cx,cy,cz,rfl,rfl,by(with_reducible (repeat' (first|(refine VB.new' ?_;exact(by first|omega|(simp;done)|(simp;omega)))|apply VB.put2|apply VB.put3|apply VB.put5|refine VB.drew ?_|refine VB.far ?_ ?_ _|refine VB.alloc ?_ _|omega|(simp;done)|(simp;omega)))),(HT4.out.gr (by(with_reducible (repeat' (first|exact Gr.refl _ _|refine Gr.drew ?_|refine Gr.setCell ?_ ?_ _|refine Gr.alloc ?_ ?_ _|omega|(simp;done)|(simp;omega)))))).mono (by omega),by omega,by(with_reducible (repeat' (first|exact Gr.refl _ _|refine Gr.drew ?_|refine Gr.setCell ?_ ?_ _|refine Gr.alloc ?_ ?_ _|refine Gr.trans ?_ (Gr.mono HG4.out ?_)|refine Gr.trans ?_ (Gr.mono HG3.out ?_)|omega|(simp;done)|(simp;omega))))⟩
   ·go_simp
    (try dsimp only)
    refine hK.out _ _ ?_ (fun hQ2=>?_)
    ·(first|exact trivial|((try dsimp only);simp [go_sem, *]))
    clear hK K hQ1
    try simp only [pS]
    refine rd 3 (fun K hK=>?_)
    go_simp
    (refine(HTA.out _ (by(with_reducible (repeat' (first|exact Gr.refl _ _|refine Gr.drew ?_|refine Gr.setCell ?_ ?_ _|refine Gr.alloc ?_ ?_ _|refine Gr.trans ?_ (Gr.mono HG3.out ?_)|omega|(simp;done)|(simp;omega)))))).mono ?_;rintro e w4 ⟨ax,ay,az,cx,cy,cz,rfl,hT4,hg4⟩;(try (with_reducible replace hg4:=Gr.of_drew hg4));have hsz4:=hg4.size;(try simp at hsz4);have hy4:mb<w4.heap.size:=(by omega);(try (have hy5:w2.heap.size<w4.heap.size:=(by omega)));obtain ⟨hc4,hf4⟩:=hg4.cells;have HT4:=Lib.hid hT4;have HG4:=Lib.hid hg4;clear hT4 hg4)
    (try dsimp only)
    refine hK.out _ _ ?_ (fun hQ3=>?_)
    ·(first|exact trivial|((try dsimp only);simp [go_sem, *]))
    clear hK K hQ2
    try simp only [pS]
    refine tk 4 (some 20) (.tuple #[.agg #[.int .i64 (o:Int),.int .i64 (N:Int),.slice ax m.tris.length cx,.slice ay N cy,.slice az E cz],.int .i64 0]) ?_
    try simp only [pS]
    refine tk 5 (some 25) (.agg #[.int .i64 (o:Int),.int .i64 (N:Int),.slice ax m.tris.length cx,.slice ay N cy,.slice az E cz]) ?_
    try simp only [pS]
    refine tk 6 (some 26) (.int .i64 0) ?_
    try simp only [pS]
    refine rd 8 (fun K hK=>?_)
    go_simp
    (try dsimp only)
    refine hK.out _ _ ?_ (fun hQ4=>?_)
    ·(first|exact trivial|((try dsimp only);simp [go_sem, *]))
    clear hK K hQ3
    try simp only [pS]
    refine rd 9 (fun K hK=>?_)
    go_simp
    (try dsimp only)
    refine hK.out _ _ ?_ (fun hQ5=>?_)
    ·(first|exact trivial|((try dsimp only);simp [go_sem, *]))
    clear hK K hQ4
    try simp only [pS]
    refine wpAnyH_done (by kernel_rfl) ?_ _
    go_wp2_with fail
    go_meet
    refine⟨w3.heap.size,ax,ay,az,cx,cy,cz,rfl,rfl,by(with_reducible (repeat' (first|(refine VB.new' ?_;exact(by first|omega|(simp;done)|(simp;omega)))|apply VB.put2|apply VB.put3|apply VB.put5|refine VB.drew ?_|refine VB.far ?_ ?_ _|refine VB.alloc ?_ _|refine VB.gr ?_ HG4.out ?_|omega|(simp;done)|(simp;omega)))),(HT4.out.kp (Kp.sets w4 (w3.heap.size) 0 [.int .i64 (o:Int),.int .i64 (N:Int),.slice ax m.tris.length cx,.slice ay N cy,.slice az E cz]) (fun g e=>by have:=Option.some.inj e;simp;omega)).mono (by simp;omega),by omega,by(with_reducible (repeat' (first|exact Gr.refl _ _|refine Gr.drew ?_|refine Gr.setCell ?_ ?_ _|refine Gr.alloc ?_ ?_ _|refine Gr.trans ?_ (Gr.mono HG4.out ?_)|refine Gr.trans ?_ (Gr.mono HG3.out ?_)|omega|(simp;done)|(simp;omega))))⟩
  ·go_simp
   (try dsimp only)
   refine hK.out _ _ ?_ (fun hQ1=>?_)
   ·(first|exact trivial|((try dsimp only);simp [go_sem, *]))
   clear hK K hHeld
   try simp only [pS]
   refine rd 2 (fun K hK=>?_)
   go_simp
   (refine(HO.out _).mono ?_;rintro e w3 ⟨rfl,hg3⟩;(try (with_reducible replace hg3:=Gr.of_drew hg3));have hsz3:=hg3.size;(try simp at hsz3);have hy3_0:mb<w3.heap.size:=(by omega);have hy3_1:w2.heap.size<w3.heap.size:=(by omega);obtain ⟨hc3,hf3⟩:=hg3.cells;have HG3:=Lib.hid hg3;clear hg3)
   (try dsimp only)
   refine hK.out _ _ ?_ (fun hQ2=>?_)
   ·(first|exact trivial|((try dsimp only);simp [go_sem, *]))
   clear hK K hQ1
   try simp only [pS]
   refine rd 3 (fun K hK=>?_)
   go_simp
   (refine(HTA.out _ (by(with_reducible (repeat' (first|exact Gr.refl _ _|refine Gr.drew ?_|refine Gr.setCell ?_ ?_ _|refine Gr.alloc ?_ ?_ _|refine Gr.trans ?_ (Gr.mono HG3.out ?_)|omega|(simp;done)|(simp;omega)))))).mono ?_;rintro e w4 ⟨ax,ay,az,cx,cy,cz,rfl,hT4,hg4⟩;(try (with_reducible replace hg4:=Gr.of_drew hg4));have hsz4:=hg4.size;(try simp at hsz4);have hy4:mb<w4.heap.size:=(by omega);(try (have hy5:w2.heap.size<w4.heap.size:=(by omega)));obtain ⟨hc4,hf4⟩:=hg4.cells;have HT4:=Lib.hid hT4;have HG4:=Lib.hid hg4;clear hT4 hg4)
   (try dsimp only)
   refine hK.out _ _ ?_ (fun hQ3=>?_)
   ·(first|exact trivial|((try dsimp only);simp [go_sem, *]))
   clear hK K hQ2
   try simp only [pS]
   refine tk 4 (some 20) (.tuple #[.agg #[.int .i64 (o:Int),.int .i64 (N:Int),.slice ax m.tris.length cx,.slice ay N cy,.slice az E cz],.int .i64 0]) ?_
   try simp only [pS]
   refine tk 5 (some 25) (.agg #[.int .i64 (o:Int),.int .i64 (N:Int),.slice ax m.tris.length cx,.slice ay N cy,.slice az E cz]) ?_
   try simp only [pS]
   refine tk 6 (some 26) (.int .i64 0) ?_
   try simp only [pS]
   refine rd 8 (fun K hK=>?_)
   go_simp
   (try dsimp only)
   refine hK.out _ _ ?_ (fun hQ4=>?_)
   ·(first|exact trivial|((try dsimp only);simp [go_sem, *]))
   clear hK K hQ3
   try simp only [pS]
   refine rd 9 (fun K hK=>?_)
   go_simp
   (try dsimp only)
   refine hK.out _ _ ?_ (fun hQ5=>?_)
   ·(first|exact trivial|((try dsimp only);simp [go_sem, *]))
   clear hK K hQ4
   try simp only [pS]
   refine wpAnyH_done (by kernel_rfl) ?_ _
   go_wp2_with fail
   go_meet
   refine⟨w2.heap.size,ax,ay,az,cx,cy,cz,rfl,rfl,by(with_reducible (repeat' (first|(refine VB.new' ?_;exact(by first|omega|(simp;done)|(simp;omega)))|apply VB.put2|apply VB.put3|apply VB.put5|refine VB.drew ?_|refine VB.far ?_ ?_ _|refine VB.alloc ?_ _|refine VB.gr ?_ HG4.out ?_|refine VB.gr ?_ HG3.out ?_|omega|(simp;done)|(simp;omega)))),(HT4.out.kp (Kp.sets w4 (w2.heap.size) 0 [.int .i64 (o:Int),.int .i64 (N:Int),.slice ax m.tris.length cx,.slice ay N cy,.slice az E cz]) (fun g e=>by have:=Option.some.inj e;omega)).mono (by omega),by omega,by(with_reducible (repeat' (first|exact Gr.refl _ _|refine Gr.drew ?_|refine Gr.setCell ?_ ?_ _|refine Gr.alloc ?_ ?_ _|refine Gr.trans ?_ (Gr.mono HG4.out ?_)|refine Gr.trans ?_ (Gr.mono HG3.out ?_)|omega|(simp;done)|(simp;omega))))⟩
 case rest=>
  obtain ⟨w6,hw6⟩:∃q,q=wc:=⟨_,rfl⟩
  subst hw6
  obtain ⟨tb,ax,ay,az,cx,cy,cz,rfl,rfl,hTV,hTM,htb,hgb⟩:=hcut
  have hszb:=hgb.size
  have HTV:=Lib.hid hTV
  have HTM:=Lib.hid hTM
  have HG6:=Lib.hid (HG.out.trans (hgb.mono (by omega)))
  have HV6:=Lib.hid (HV.out.gr hgb hmb)
  have HMS6:=Lib.hid (HMS.out.gr hgb)
  clear c0 c1 c2 HTA hTV hTM hgb HG HV HMS
  refine(by assumption:∀(a:Act) (w:World),_→_) _ _ ?_
  exact rim3 w w6 two m o N E mb tb HO1.out ap at_ as_ ax ay az cp ct cs cx cy cz HG6.out.below HV6.out HTV.out HMS6.out.1 HMS6.out.2.2 (HTM.out.2.1.mono (Nat.zero_le _)) (HTM.out.2.2.mono (Nat.zero_le _)) HNE.out hT hP hSd HPT.out HAT.out HSD.out HLAW.out
end Go.Proofs.YtmbmeggbojfecaaGreat
namespace Go.Proofs.YtmbmeggbojfecaaGreat
open Go.RowKit Gus Go.Maps
theorem rim_true (x:RawM) (hx:x.Ok) (c:Value) (two:Bool) (w:World) (hS:BS w c x.bs):
  Calls Tryz.prog 5 #[.agg #[.int .u8 (x.nx:Int),.int .u8 (x.ny:Int),c,.int .i8 x.m0,.int .i8 x.m1,.int .i8 x.m2,.int .i8 x.m3,.int .u8 (x.den:Int),.int .u8 (x.fi:Int)],.bool two] w (fun e w'=>e= .returned (.bool true)∧Below w.heap.size w w'):=by
 have ho:ordN two=1∨ordN two=2:=by unfold ordN;cases two<;>simp
 obtain ⟨cv,cc,rfl⟩:=hS.at
 exact law_rim x.mesh (ordN two) two rfl x.nx x.ny x.den x.fi x.bs.length cc x.m0 x.m1 x.m2 x.m3 cv w (Nat.le_trans x.trisN (by omega)) (Nat.le_trans x.fewN (by omega)) (Nat.le_trans x.sd_len (by omega))
  (fun W hW=>m_Mesh x hx _ W (hS.gr hW)) (fun W a b c h=>m_Of x (ordN two) ho W a b c h) (fun p hp=>Nat.le_trans (x.hpS p hp) (by omega)) (x.atHp (ordN two)) (x.sideOk (ordN two)) (fun k hk=>rim_any x (ordN two) ho k hk)
end Go.Proofs.YtmbmeggbojfecaaGreat
