/-
  Part 49 of the proof: LawQ RimH RimT.
-/
import Derived.Test.YtmbmeggbojfecaaGreatJ48
set_option linter.unusedSimpArgs false
set_option linter.unusedVariables false
namespace Go.Proofs.YtmbmeggbojfecaaGreat
open Go.RowKit Gus Go.Maps
theorem below_lift {B:Nat} {w w':World} (h:Below B w w'):Gr B w {w' with drawn:=w.drawn+w'.drawn}:=⟨h.os,h.tape,h.output,Nat.le_add_right _ _,h.size,h.block⟩
theorem SR.bl {α:Type} {enc:α→List Value} {k:Nat} {t:TypeId} {w w':World} {B:Nat} {v:Value} {l:List α} (h:SR enc k t w B v l) (hb:Below w.heap.size w w'):SR enc k t w' B v l:=by
 have:=h.gr (below_lift hb)
 exact this
theorem below_cells {B:Nat} {w w':World} (h:Below B w w'):(∀b o,b<B→w'.cell? ⟨b,o,none⟩=w.cell? ⟨b,o,none⟩)∧(∀b o,b<B→w'.frozen? ⟨b,o,none⟩=w.frozen? ⟨b,o,none⟩):=
 ⟨fun _ _ h'=>h.cell h',fun _ _ h'=>h.frozen h'⟩
variable {vv0 vv1 vv2 vv3 vv4 vv5 vv6 vv7 vv8 vv9 vv10 vv11 vv12 vv13 vv14 vv15 vv16 vv17 vv18 vv19 vv20 vv21 vv22 vv23 vv24 vv25 vv26 vv27 vv28 vv29 vv30 vv31 vv32 vv33 vv34 vv35 vv36 vv37 vv38 vv39 vv40 vv41 vv42 vv43 vv44 vv45 vv46 vv47 vv48 vv49 vv50 vv51 vv52 vv53 vv54 vv55 vv56 vv57 vv58 vv59 vv60 vv61 vv62 vv63 vv64 vv65 vv66 vv67 vv68 vv69 vv70 vv71 vv72 vv73 vv74 vv75 vv76 vv77 vv78 vv79 vv80 vv81 vv82 vv83 vv84 vv85 vv86 vv87 vv88 vv89 vv90 vv91 vv92 vv93 vv94 vv95 vv96 vv97 vv98 vv99 vv100 vv101 vv102 vv103 vv104 vv105 vv106 vv107 vv108 vv109 vv110 vv111 vv112 vv113 vv114 vv115 vv116 vv117 vv118 vv119 vv120 vv121 vv122 vv123 vv124 vv125 vv126 vv127 vv128 vv129 vv130 vv131 vv132 vv133 vv134 vv135 vv136 vv137 vv138 vv139 vv140 vv141 vv142 vv143 vv144 vv145 vv146 vv147 vv148 vv149 vv150 vv151 vv152 vv153 vv154 vv155 vv156 vv157 vv158 vv159 vv160 vv161 vv162 vv163 vv164 vv165 vv166 vv167 vv168 vv169 vv170 vv171 vv172 vv173 vv174 vv175 vv176 vv177 vv178 vv179 vv180 vv181 vv182 vv183 vv184 vv185 vv186 vv187 vv188 vv189 vv190 vv191 vv192 vv193 vv194 vv195 vv196 vv197 vv198 vv199 vv200 vv201 vv202 vv203 vv204 vv205 vv206:Value}
set_option maxRecDepth 20000 in
set_option maxHeartbeats 8000000 in
theorem rim23_1 (w W:World) (m:Msh) (N E mb tb:Nat) (ap at_ as_ ax ay az:Option Addr) (cp ct cs cx cy cz:Nat) (hb:Below w.heap.size w W) (hV:VB W mb [.slice ap m.pts.length cp,.slice at_ m.tris.length ct,.slice as_ m.sides.length cs]) (hT:VB W tb [.int .i64 1,.int .i64 (N:Int),.slice ax m.tris.length cx,.slice ay N cy,.slice az E cz]) (hP:SR pC 10 57 W 0 (.slice ap m.pts.length cp) m.pts) (hS:SR triC 3 63 W 0 (.slice as_ m.sides.length cs) m.sides) (hA:SR pC 10 57 W 0 (.slice ay N cy) (atM 1 m)) (hN:(atM 1 m).length=N) (hSl:m.sides.length≤1000000)
  (hsd:∀s∈m.sides,s.1<m.pts.length∧s.2.1<m.pts.length) (hpt:∀p∈m.pts,hp p≤1000000000)
  (hSi:∀s∈m.sides,∃_kk:Nat,(∀W',Below W.heap.size W W'→Calls Tryz.prog 13 #[.agg #[.int .i64 1,.int .i64 (N:Int),.slice ax m.tris.length cx,.slice ay N cy,.slice az E cz],.int .i64 (s.2.1:Int),.int .i64 (s.1:Int)] W' (fun e w'=> ∃gl,e= .returned (.tuple #[.slice (some ⟨gl,0,none⟩) 2 2,.int .i64 0])∧gl<w'.heap.size∧W'.heap.size≤gl∧w'.cell? ⟨gl,0,none⟩=some (.int .i64 (s.2.1:Int))∧w'.cell? ⟨gl,1,none⟩=some (.int .i64 (s.1:Int))∧Gr W'.heap.size W' w'))∧
   (∀W' vs,Below W.heap.size W W'→SR triC 3 63 W' 0 vs [s,s]→Calls Tryz.prog 11 #[.agg #[.int .i64 1,.int .i64 (N:Int),.slice ax m.tris.length cx,.slice ay N cy,.slice az E cz],vs] W' (fun e w'=> ∃a,e= .returned (.slice a 2 2)∧Below W'.heap.size W' w'))):
  Code.wp Tryz.prog (tlR 23) (bodyPost Tryz.prog Tryz.f5 (fun e w'=>e= .returned (.bool true)∧Below w.heap.size w w')) {tmps:= #[vv0,.bool false,vv2,vv3,vv4,.pointer (some ⟨mb,0,none⟩),.pointer (some ⟨tb,0,none⟩),vv7,vv8,vv9,vv10,vv11,vv12,vv13,vv14,vv15,vv16,vv17,vv18,vv19,vv20,vv21,vv22,vv23,vv24,vv25,vv26,vv27,vv28,vv29,vv30,vv31,vv32,vv33,vv34,vv35,vv36,vv37,vv38,vv39,vv40,vv41,vv42,vv43,vv44,vv45,vv46,vv47,vv48,vv49,vv50,vv51,vv52,vv53,vv54,vv55,vv56,vv57,vv58,vv59,vv60,vv61,vv62,vv63,vv64,vv65,vv66,vv67,vv68,vv69,vv70,vv71,vv72,vv73,vv74,vv75,vv76,vv77,vv78,vv79,vv80,vv81,vv82,vv83,vv84,vv85,vv86,vv87,vv88,vv89,vv90,vv91,vv92,vv93,vv94,vv95,vv96,vv97,vv98,vv99,vv100,vv101,vv102,vv103,vv104,vv105,vv106,vv107,vv108,vv109,vv110,vv111,vv112,vv113,vv114,vv115,vv116,vv117,vv118,vv119,vv120,vv121,vv122,vv123,vv124,vv125,vv126,vv127,vv128,vv129,vv130,vv131,vv132,vv133,vv134,vv135,vv136,vv137,vv138,vv139,vv140,vv141,vv142,vv143,vv144,vv145,vv146,vv147,vv148,vv149,vv150,vv151,vv152,vv153,vv154,vv155,vv156,vv157,vv158,vv159,vv160,vv161,vv162,vv163,vv164,vv165,vv166,vv167,vv168,vv169,vv170,vv171,vv172,vv173,vv174,vv175,vv176,vv177,vv178,vv179,vv180,vv181,vv182,vv183,vv184,vv185,vv186,vv187,vv188,vv189,vv190,vv191,vv192,vv193,vv194,vv195,vv196,vv197,vv198,vv199,vv200,vv201,vv202,vv203,vv204,vv205,vv206],defers:= []} W:=by
 have HBW:=Lib.hid hb
 have HV:=Lib.hid hV
 have HT:=Lib.hid hT
 have HP:=Lib.hid hP
 have HS:=Lib.hid hS
 have HA:=Lib.hid hA
 have HN:=Lib.hid hN
 have HSD:=Lib.hid hsd
 have HPT:=Lib.hid hpt
 have HSI:=Lib.hid hSi
 have hvl:=hV.lt
 have htl:=hT.lt
 have hsw:=hb.size
 clear hb hV hT hP hS hA hN hsd hpt hSi
 have HO:=Lib.hid (show ∀W,Calls Tryz.prog 8 #[.bool false] W (Ret W (.int .i64 1))from fun W=>law_Order false W)
 have hwn:IntKind.i64.wrap 2=2:=by decide
 have X0:=Lib.hid (HV.out.c 0 _ rfl)
 have X2:=Lib.hid (HV.out.c 2 _ rfl)
 have Y0:=Lib.hid (HT.out.c 0 _ rfl)
 have Y1:=Lib.hid (HT.out.c 1 _ rfl)
 have Y2:=Lib.hid (HT.out.c 2 _ rfl)
 have Y3:=Lib.hid (HT.out.c 3 _ rfl)
 have Y4:=Lib.hid (HT.out.c 4 _ rfl)
 refine wp_seq_k (fun K1 hK1=>?_)
 go_wp2
 go_loopw [14] (fun s wr=> ∃i:Nat,i≤m.sides.length∧s= .int .i64 i∧Hid (Below W.heap.size W wr)) (fun s _=>m.sides.length - (intOf s).toNat)
 case atStart=>exact⟨0,Nat.zero_le _,rfl,Lib.hid (Below.refl _ _)⟩
 case round=>
  obtain ⟨i,hi,rfl,HQ⟩:=hrel
  have hszq:=HQ.out.size
  have x2:=(HQ.out.cell (p:=⟨mb,2,none⟩) hvl).trans X2.out
  have hvr:mb<wr.heap.size:=by omega
  by_cases hli:i<m.sides.length
  ·have qi:(i:Int)<(m.sides.length:Int):=by omega
   have qi0:(0:Int)≤(i:Int):=by omega
   obtain ⟨s,hs⟩:∃s,m.sides[i]=s:=⟨_,rfl⟩
   obtain ⟨h1,h2⟩:=HSD.out s (hs ▸ List.getElem_mem hli)
   obtain ⟨kk,hSide,hOn⟩:=HSI.out s (hs ▸ List.getElem_mem hli)
   obtain ⟨s1,s2,s3⟩:=s
   dsimp only at h1 h2 hSide hOn
   have HSIDE:=Lib.hid hSide
   have HON:=Lib.hid hOn
   clear hSide hOn
   obtain ⟨gs,cs',e4,_,_,_,hss,hRs⟩:=HS.out.block (by intro e;rw [e]at hli;simp at hli)
   injection e4 with e4 _ e5
   subst e4 e5
   have hgs:=hss.lt
   obtain ⟨u0,u1,u2⟩:=hRs.fTri hli hs
   rw [←HQ.out.cell (p:=⟨gs,i*3,none⟩) hgs]at u0
   rw [←HQ.out.cell (p:=⟨gs,i*3+1,none⟩) hgs]at u1
   rw [←HQ.out.cell (p:=⟨gs,i*3+2,none⟩) hgs]at u2
   have hgsr:gs<wr.heap.size:=by omega
   clear hRs hss hs
   have y0:=(HQ.out.cell (p:=⟨tb,0,none⟩) htl).trans Y0.out
   have y1:=(HQ.out.cell (p:=⟨tb,1,none⟩) htl).trans Y1.out
   have y2:=(HQ.out.cell (p:=⟨tb,2,none⟩) htl).trans Y2.out
   have y3:=(HQ.out.cell (p:=⟨tb,3,none⟩) htl).trans Y3.out
   have y4:=(HQ.out.cell (p:=⟨tb,4,none⟩) htl).trans Y4.out
   have htr:tb<wr.heap.size:=by omega
   go_upto_region 27 with fail
   have HVS:=Lib.hid (show VB (wr.alloc (.cells #[.int .i64 (s1:Int),.int .i64 (s2:Int),.int .i64 (s3:Int)] 63)) wr.heap.size [.int .i64 (s1:Int),.int .i64 (s2:Int),.int .i64 (s3:Int)]from by(with_reducible (repeat' (first|(refine VB.new' ?_;exact(by first|omega|(simp;done)|(simp;omega)))|apply VB.put2|apply VB.put3|apply VB.put5|refine VB.drew ?_|refine VB.far ?_ ?_ _|refine VB.alloc ?_ _|omega|(simp;done)|(simp;omega)))))
   have HBA:=Lib.hid (show Below W.heap.size W (wr.alloc (.cells #[.int .i64 (s1:Int),.int .i64 (s2:Int),.int .i64 (s3:Int)] 63))from HQ.out.trans ((Below.refl _ _).alloc (by omega) _))
   have hsA:(wr.alloc (.cells #[.int .i64 (s1:Int),.int .i64 (s2:Int),.int .i64 (s3:Int)] 63)).heap.size=wr.heap.size+1:=by simp
   replace y0:(wr.alloc (.cells #[.int .i64 (s1:Int),.int .i64 (s2:Int),.int .i64 (s3:Int)] 63)).cell? ⟨tb,0,none⟩=_:=(HBA.out.cell (p:=⟨tb,0,none⟩) htl).trans Y0.out
   replace y1:(wr.alloc (.cells #[.int .i64 (s1:Int),.int .i64 (s2:Int),.int .i64 (s3:Int)] 63)).cell? ⟨tb,1,none⟩=_:=(HBA.out.cell (p:=⟨tb,1,none⟩) htl).trans Y1.out
   replace y2:(wr.alloc (.cells #[.int .i64 (s1:Int),.int .i64 (s2:Int),.int .i64 (s3:Int)] 63)).cell? ⟨tb,2,none⟩=_:=(HBA.out.cell (p:=⟨tb,2,none⟩) htl).trans Y2.out
   replace y3:(wr.alloc (.cells #[.int .i64 (s1:Int),.int .i64 (s2:Int),.int .i64 (s3:Int)] 63)).cell? ⟨tb,3,none⟩=_:=(HBA.out.cell (p:=⟨tb,3,none⟩) htl).trans Y3.out
   replace y4:(wr.alloc (.cells #[.int .i64 (s1:Int),.int .i64 (s2:Int),.int .i64 (s3:Int)] 63)).cell? ⟨tb,4,none⟩=_:=(HBA.out.cell (p:=⟨tb,4,none⟩) htl).trans Y4.out
   generalize (wr.alloc (.cells #[.int .i64 (s1:Int),.int .i64 (s2:Int),.int .i64 (s3:Int)] 63))=wa at *
   clear u0 u1 u2 x2
   obtain ⟨sb,hsb⟩:∃q,wr.heap.size=q:=⟨_,rfl⟩
   rw [hsb]at HVS hsA hszq hvr hgsr htr ⊢
   have hsb0:W.heap.size≤sb:=by omega
   have hsba:sb<wa.heap.size:=by omega
   have hWa:W.heap.size≤wa.heap.size:=by omega
   clear hsA hszq hsb
   have f0:=HVS.out.c 0 _ rfl
   have f1:=HVS.out.c 1 _ rfl
   have f2:=HVS.out.c 2 _ rfl
   have htla:tb<wa.heap.size:=by omega
   have hvla:mb<wa.heap.size:=by omega
   go_wp2_with fail
   refine(HSIDE.out _ HBA.out).mono ?_
   rintro e w5 ⟨gl,rfl,hgl,hgla,g0,g1,hg5⟩
   have hsz5:=hg5.size
   have HVS5:=Lib.hid (HVS.out.gr hg5 hsba)
   have HB5:=Lib.hid (HBA.out.trans (hg5.below.mono hWa))
   clear f0 f1 f2 y0 y1 y2 y3 y4 hg5 HVS HBA HQ
   have y0:=(HB5.out.cell (p:=⟨tb,0,none⟩) htl).trans Y0.out
   have y1:=(HB5.out.cell (p:=⟨tb,1,none⟩) htl).trans Y1.out
   have y2:=(HB5.out.cell (p:=⟨tb,2,none⟩) htl).trans Y2.out
   have y3:=(HB5.out.cell (p:=⟨tb,3,none⟩) htl).trans Y3.out
   have y4:=(HB5.out.cell (p:=⟨tb,4,none⟩) htl).trans Y4.out
   have f0:=HVS5.out.c 0 _ rfl
   have f1:=HVS5.out.c 1 _ rfl
   have f2:=HVS5.out.c 2 _ rfl
   have hsb5:sb<w5.heap.size:=by omega
   have htb5:tb<w5.heap.size:=by omega
   have hmb5:mb<w5.heap.size:=by omega
   have hW5:W.heap.size≤w5.heap.size:=by omega
   go_upto_region 28 with fail
   refine wp_region_held_drew (S:=(fun w'=>w'.cell? ⟨tb,0,none⟩=some (.int .i64 1)∧w'.cell? ⟨tb,1,none⟩=some (.int .i64 (N:Int))∧w'.cell? ⟨tb,2,none⟩=some (.slice ax m.tris.length cx)∧w'.cell? ⟨tb,3,none⟩=some (.slice ay N cy)∧w'.cell? ⟨tb,4,none⟩=some (.slice az E cz)∧w'.cell? ⟨sb,0,none⟩=some (.int .i64 (s1:Int))∧w'.cell? ⟨sb,1,none⟩=some (.int .i64 (s2:Int))∧w'.cell? ⟨sb,2,none⟩=some (.int .i64 (s3:Int))∧w'.cell? ⟨gl,0,none⟩=some (.int .i64 (s2:Int))∧w'.cell? ⟨gl,1,none⟩=some (.int .i64 (s1:Int)))) (by kernel_rfl) ?_ (fun hHeld=>?_)
   ·simp [go_sem, *]
   refine tk 0 (some 143) (.int .i64 0) ?_
   try simp only [pS]
   refine tk 1 (some 144) (.bool false) ?_
   try simp only [pS]
   refine tk 2 (some 145) (.bool false) ?_
   try simp only [pS]
   refine tk 3 (some 146) (.slice (some ⟨gl,0,none⟩) 2 2) ?_
   try simp only [pS]
   refine tk 4 (some 147) (.int .i64 2) ?_
   try simp only [pS]
   refine tk 5 (some 148) (.bool false) ?_
   try simp only [pS]
   refine rd 6 (fun K hK=>?_)
   go_simp
   (refine(HO.out _).mono ?_;rintro e w6 ⟨rfl,hg6⟩;(try (with_reducible replace hg6:=Gr.of_drew hg6));have hsz6:=hg6.size;(try simp at hsz6);have hy6_0:sb<w6.heap.size:=(by omega);have hy6_1:tb<w6.heap.size:=(by omega);have hy6_2:gl<w6.heap.size:=(by omega);have hy6_3:mb<w6.heap.size:=(by omega);obtain ⟨hc6,hf6⟩:=hg6.cells;have HG6:=Lib.hid hg6;clear hg6)
   (try dsimp only)
   refine hK.out _ _ ?_ (fun hQ1=>?_)
   ·(first|exact trivial|((try dsimp only);simp [go_sem, *]))
   clear hK K hHeld
   try simp only [pS]
   refine tk 7 (some 150) (.int .i64 2) ?_
   try simp only [pS]
   refine tk 8 (some 151) (.bool false) ?_
   try simp only [pS]
   refine tk 9 (some 152) (.bool false) ?_
   try simp only [pS]
   refine tk 10 (some 153) (.bool false) ?_
   try simp only [pS]
   refine tk 11 (some 154) (.slice (some ⟨gl,0,none⟩) 2 2) ?_
   try simp only [pS]
   refine tk 12 (some 155) (.pointer (some ⟨gl,0,none⟩)) ?_
   try simp only [pS]
   refine tk 13 (some 156) (.int .i64 (s2:Int)) ?_
   try simp only [pS]
   refine tk 14 (some 157) (.pointer (some ⟨sb,1,none⟩)) ?_
   try simp only [pS]
   refine tk 15 (some 158) (.int .i64 (s2:Int)) ?_
   try simp only [pS]
   refine tk 16 (some 159) (.bool false) ?_
   try simp only [pS]
   refine tk 17 (some 160) (.bool false) ?_
   try simp only [pS]
   refine tk 18 (some 161) (.bool false) ?_
   try simp only [pS]
   refine tk 19 (some 162) (.slice (some ⟨gl,0,none⟩) 2 2) ?_
   try simp only [pS]
   refine tk 20 (some 163) (.pointer (some ⟨gl,1,none⟩)) ?_
   try simp only [pS]
   refine tk 21 (some 164) (.int .i64 (s1:Int)) ?_
   try simp only [pS]
   refine tk 22 (some 165) (.pointer (some ⟨sb,0,none⟩)) ?_
   try simp only [pS]
   refine tk 23 (some 166) (.int .i64 (s1:Int)) ?_
   try simp only [pS]
   refine tk 24 (some 167) (.bool false) ?_
   try simp only [pS]
   refine tk 25 (some 168) (.bool false) ?_
   try simp only [pS]
   refine tk 26 (some 169) (.bool false) ?_
   try simp only [pS]
   refine tk 27 (some 170) (.bool false) ?_
   try simp only [pS]
   refine tk 28 (some 171) (.bool false) ?_
   try simp only [pS]
   refine tu 29 (some 172) (undef) ?_
   try simp only [pS]
   refine tu 30 (some 173) (undef) ?_
   try simp only [pS]
   refine tu 31 (some 174) (undef) ?_
   try simp only [pS]
   refine tu 32 (some 175) (undef) ?_
   try simp only [pS]
   refine tu 33 (some 176) (undef) ?_
   try simp only [pS]
   refine tu 34 (some 177) (undef) ?_
   try simp only [pS]
   refine tu 35 (some 178) (undef) ?_
   try simp only [pS]
   refine tu 36 (some 179) (undef) ?_
   try simp only [pS]
   refine tu 37 (some 180) (undef) ?_
   try simp only [pS]
   refine tu 38 (some 181) (undef) ?_
   try simp only [pS]
   refine tu 39 (some 182) (undef) ?_
   try simp only [pS]
   refine tu 40 (some 183) (undef) ?_
   try simp only [pS]
   refine tu 41 (some 184) (undef) ?_
   try simp only [pS]
   refine tu 42 (some 185) (undef) ?_
   try simp only [pS]
   refine tu 43 (some 186) (undef) ?_
   try simp only [pS]
   refine tu 44 (some 187) (undef) ?_
   try simp only [pS]
   refine tu 45 (some 188) (undef) ?_
   try simp only [pS]
   refine tu 46 (some 189) (undef) ?_
   try simp only [pS]
   refine tu 47 (some 190) (undef) ?_
   try simp only [pS]
   refine tu 48 (some 191) (undef) ?_
   try simp only [pS]
   refine tu 49 (some 192) (undef) ?_
   try simp only [pS]
   refine tk 50 (some 193) (.bool false) ?_
   try simp only [pS]
   refine tk 51 (some 194) (.bool false) ?_
   try simp only [pS]
   refine tk 52 (some 195) (.bool false) ?_
   try simp only [pS]
   refine tk 53 (some 196) (.agg #[.int .i64 1,.int .i64 (N:Int),.slice ax m.tris.length cx,.slice ay N cy,.slice az E cz]) ?_
   try simp only [pS]
   refine tk 54 (some 197) (.agg #[.int .i64 (s1:Int),.int .i64 (s2:Int),.int .i64 (s3:Int)]) ?_
   try simp only [pS]
   refine tk 55 (some 198) (.agg #[.int .i64 (s1:Int),.int .i64 (s2:Int),.int .i64 (s3:Int)]) ?_
   try simp only [pS]
   refine tk 59 (some 202) (.slice (some ⟨gl,0,none⟩) 2 2) ?_
   try simp only [pS]
   refine tk 60 (some 203) (.int .i64 2) ?_
   try simp only [pS]
   refine rd 56 (fun K hK=>?_)
   go_simp
   (try dsimp only)
   refine hK.out _ _ ?_ (fun hQ3=>?_)
   ·(first|exact trivial|((try dsimp only);simp [go_sem, *]))
   clear hK K hQ1
   try simp only [pS]
   refine rd 57 (fun K hK=>?_)
   go_simp
   (refine(HON.out _ _ (HB5.out.trans ((show Gr w5.heap.size w5 _ from by(with_reducible (repeat' (first|exact Gr.refl _ _|refine Gr.drew ?_|refine Gr.setCell ?_ ?_ _|refine Gr.alloc ?_ ?_ _|refine Gr.trans ?_ (Gr.mono HG6.out ?_)|omega|(simp;done)|(simp;omega))))).below.mono hW5)) (SL.new' (l:= [((s1,s2,s3):Tri),(s1,s2,s3)]) triC_len _ rfl rfl (Nat.zero_le _) (by simp [maxLen]) rfl).sr).mono ?_;rintro e w9 ⟨av,rfl,hb9⟩;have hz9:=hb9.size;(try simp at hz9);have HB9:=Lib.hid (HB5.out.trans (((show Gr w5.heap.size w5 _ from by(with_reducible (repeat' (first|exact Gr.refl _ _|refine Gr.drew ?_|refine Gr.setCell ?_ ?_ _|refine Gr.alloc ?_ ?_ _|refine Gr.trans ?_ (Gr.mono HG6.out ?_)|omega|(simp;done)|(simp;omega))))).below.trans (hb9.mono (by first|omega|(simp;done)|(simp;omega)))).mono hW5));obtain ⟨hc9,hf9⟩:=below_cells hb9;clear hb9)
   (try dsimp only)
   refine hK.out _ _ ?_ (fun hQ4=>?_)
   ·(first|exact trivial|((try dsimp only);simp [go_sem, *]))
   clear hK K hQ3
   try simp only [pS]
   refine tk 58 (some 201) (.int .i64 2) ?_
   try simp only [pS]
   refine tk 61 (some 204) (.bool false) ?_
   try simp only [pS]
   refine tk 62 (some 205) (.bool false) ?_
   try simp only [pS]
   refine wpAnyH_done (by kernel_rfl) ?_ _
   clear hc9 hf9
   go_wp2
   go_roundw
   case rel=>exact⟨i+1,by omega,by go_num,Lib.hid (by first|exact HB9.out|exact HB9.out.drew)⟩
   case measure=>simp [intOf];omega
  ·have hil:i=m.sides.length:=by omega
   subst hil
   go_wp2_with fail
   refine(law_lives _).mono ?_
   rintro e w9 ⟨rfl,hb9⟩
   have HB9:=Lib.hid hb9
   clear hb9
   go_wp2
   go_ret
   exact⟨rfl,HBW.out.trans ((HQ.out.trans ((show Gr wr.heap.size wr _ from by(with_reducible (repeat' (first|exact Gr.refl _ _|refine Gr.drew ?_|refine Gr.setCell ?_ ?_ _|refine Gr.alloc ?_ ?_ _|omega|(simp;done)|(simp;omega))))).below.trans (HB9.out.mono (by simp)) |>.mono hszq)).mono hsw)⟩
set_option maxRecDepth 20000 in
set_option maxHeartbeats 8000000 in
theorem rim23_2 (w W:World) (m:Msh) (N E mb tb:Nat) (ap at_ as_ ax ay az:Option Addr) (cp ct cs cx cy cz:Nat) (hb:Below w.heap.size w W) (hV:VB W mb [.slice ap m.pts.length cp,.slice at_ m.tris.length ct,.slice as_ m.sides.length cs]) (hT:VB W tb [.int .i64 2,.int .i64 (N:Int),.slice ax m.tris.length cx,.slice ay N cy,.slice az E cz]) (hP:SR pC 10 57 W 0 (.slice ap m.pts.length cp) m.pts) (hS:SR triC 3 63 W 0 (.slice as_ m.sides.length cs) m.sides) (hA:SR pC 10 57 W 0 (.slice ay N cy) (atM 2 m)) (hN:(atM 2 m).length=N) (hSl:m.sides.length≤1000000)
  (hsd:∀s∈m.sides,s.1<m.pts.length∧s.2.1<m.pts.length) (hpt:∀p∈m.pts,hp p≤1000000000)
  (hSi:∀s∈m.sides,∃kk:Nat,(∃hk:kk<(atM 2 m).length,(atM 2 m)[kk]=midP (m.pts.getD s.1 ⟨0,0⟩) (m.pts.getD s.2.1 ⟨0,0⟩))∧(∀W',Below W.heap.size W W'→Calls Tryz.prog 13 #[.agg #[.int .i64 2,.int .i64 (N:Int),.slice ax m.tris.length cx,.slice ay N cy,.slice az E cz],.int .i64 (s.2.1:Int),.int .i64 (s.1:Int)] W' (fun e w'=> ∃gl,e= .returned (.tuple #[.slice (some ⟨gl,0,none⟩) 3 3,.int .i64 0])∧gl<w'.heap.size∧W'.heap.size≤gl∧w'.cell? ⟨gl,0,none⟩=some (.int .i64 (s.2.1:Int))∧w'.cell? ⟨gl,1,none⟩=some (.int .i64 (s.1:Int))∧w'.cell? ⟨gl,2,none⟩=some (.int .i64 (kk:Int))∧Gr W'.heap.size W' w'))∧
   (∀W' vs,Below W.heap.size W W'→SR triC 3 63 W' 0 vs [s,s]→Calls Tryz.prog 11 #[.agg #[.int .i64 2,.int .i64 (N:Int),.slice ax m.tris.length cx,.slice ay N cy,.slice az E cz],vs] W' (fun e w'=> ∃a,e= .returned (.slice a 3 3)∧Below W'.heap.size W' w'))):
  Code.wp Tryz.prog (tlR 23) (bodyPost Tryz.prog Tryz.f5 (fun e w'=>e= .returned (.bool true)∧Below w.heap.size w w')) {tmps:= #[vv0,.bool true,vv2,vv3,vv4,.pointer (some ⟨mb,0,none⟩),.pointer (some ⟨tb,0,none⟩),vv7,vv8,vv9,vv10,vv11,vv12,vv13,vv14,vv15,vv16,vv17,vv18,vv19,vv20,vv21,vv22,vv23,vv24,vv25,vv26,vv27,vv28,vv29,vv30,vv31,vv32,vv33,vv34,vv35,vv36,vv37,vv38,vv39,vv40,vv41,vv42,vv43,vv44,vv45,vv46,vv47,vv48,vv49,vv50,vv51,vv52,vv53,vv54,vv55,vv56,vv57,vv58,vv59,vv60,vv61,vv62,vv63,vv64,vv65,vv66,vv67,vv68,vv69,vv70,vv71,vv72,vv73,vv74,vv75,vv76,vv77,vv78,vv79,vv80,vv81,vv82,vv83,vv84,vv85,vv86,vv87,vv88,vv89,vv90,vv91,vv92,vv93,vv94,vv95,vv96,vv97,vv98,vv99,vv100,vv101,vv102,vv103,vv104,vv105,vv106,vv107,vv108,vv109,vv110,vv111,vv112,vv113,vv114,vv115,vv116,vv117,vv118,vv119,vv120,vv121,vv122,vv123,vv124,vv125,vv126,vv127,vv128,vv129,vv130,vv131,vv132,vv133,vv134,vv135,vv136,vv137,vv138,vv139,vv140,vv141,vv142,vv143,vv144,vv145,vv146,vv147,vv148,vv149,vv150,vv151,vv152,vv153,vv154,vv155,vv156,vv157,vv158,vv159,vv160,vv161,vv162,vv163,vv164,vv165,vv166,vv167,vv168,vv169,vv170,vv171,vv172,vv173,vv174,vv175,vv176,vv177,vv178,vv179,vv180,vv181,vv182,vv183,vv184,vv185,vv186,vv187,vv188,vv189,vv190,vv191,vv192,vv193,vv194,vv195,vv196,vv197,vv198,vv199,vv200,vv201,vv202,vv203,vv204,vv205,vv206],defers:= []} W:=by
 have HBW:=Lib.hid hb
 have HV:=Lib.hid hV
 have HT:=Lib.hid hT
 have HP:=Lib.hid hP
 have HS:=Lib.hid hS
 have HA:=Lib.hid hA
 have HN:=Lib.hid hN
 have HSD:=Lib.hid hsd
 have HPT:=Lib.hid hpt
 have HSI:=Lib.hid hSi
 have hvl:=hV.lt
 have htl:=hT.lt
 have hsw:=hb.size
 clear hb hV hT hP hS hA hN hsd hpt hSi
 have HO:=Lib.hid (show ∀W,Calls Tryz.prog 8 #[.bool true] W (Ret W (.int .i64 2))from fun W=>law_Order true W)
 have hwn:IntKind.i64.wrap 3=3:=by decide
 have X0:=Lib.hid (HV.out.c 0 _ rfl)
 have X2:=Lib.hid (HV.out.c 2 _ rfl)
 have Y0:=Lib.hid (HT.out.c 0 _ rfl)
 have Y1:=Lib.hid (HT.out.c 1 _ rfl)
 have Y2:=Lib.hid (HT.out.c 2 _ rfl)
 have Y3:=Lib.hid (HT.out.c 3 _ rfl)
 have Y4:=Lib.hid (HT.out.c 4 _ rfl)
 refine wp_seq_k (fun K1 hK1=>?_)
 go_wp2
 go_loopw [14] (fun s wr=> ∃i:Nat,i≤m.sides.length∧s= .int .i64 i∧Hid (Below W.heap.size W wr)) (fun s _=>m.sides.length - (intOf s).toNat)
 case atStart=>exact⟨0,Nat.zero_le _,rfl,Lib.hid (Below.refl _ _)⟩
 case round=>
  obtain ⟨i,hi,rfl,HQ⟩:=hrel
  have hszq:=HQ.out.size
  have x2:=(HQ.out.cell (p:=⟨mb,2,none⟩) hvl).trans X2.out
  have hvr:mb<wr.heap.size:=by omega
  by_cases hli:i<m.sides.length
  ·have qi:(i:Int)<(m.sides.length:Int):=by omega
   have qi0:(0:Int)≤(i:Int):=by omega
   obtain ⟨s,hs⟩:∃s,m.sides[i]=s:=⟨_,rfl⟩
   obtain ⟨h1,h2⟩:=HSD.out s (hs ▸ List.getElem_mem hli)
   obtain ⟨kk,⟨hkk,hmid⟩,hSide,hOn⟩:=HSI.out s (hs ▸ List.getElem_mem hli)
   obtain ⟨s1,s2,s3⟩:=s
   dsimp only at h1 h2 hSide hOn hmid
   have HSIDE:=Lib.hid hSide
   have HON:=Lib.hid hOn
   clear hSide hOn
   obtain ⟨gs,cs',e4,_,_,_,hss,hRs⟩:=HS.out.block (by intro e;rw [e]at hli;simp at hli)
   injection e4 with e4 _ e5
   subst e4 e5
   have hgs:=hss.lt
   obtain ⟨u0,u1,u2⟩:=hRs.fTri hli hs
   rw [←HQ.out.cell (p:=⟨gs,i*3,none⟩) hgs]at u0
   rw [←HQ.out.cell (p:=⟨gs,i*3+1,none⟩) hgs]at u1
   rw [←HQ.out.cell (p:=⟨gs,i*3+2,none⟩) hgs]at u2
   have hgsr:gs<wr.heap.size:=by omega
   clear hRs hss hs
   have y0:=(HQ.out.cell (p:=⟨tb,0,none⟩) htl).trans Y0.out
   have y1:=(HQ.out.cell (p:=⟨tb,1,none⟩) htl).trans Y1.out
   have y2:=(HQ.out.cell (p:=⟨tb,2,none⟩) htl).trans Y2.out
   have y3:=(HQ.out.cell (p:=⟨tb,3,none⟩) htl).trans Y3.out
   have y4:=(HQ.out.cell (p:=⟨tb,4,none⟩) htl).trans Y4.out
   have htr:tb<wr.heap.size:=by omega
   go_upto_region 27 with fail
   have HVS:=Lib.hid (show VB (wr.alloc (.cells #[.int .i64 (s1:Int),.int .i64 (s2:Int),.int .i64 (s3:Int)] 63)) wr.heap.size [.int .i64 (s1:Int),.int .i64 (s2:Int),.int .i64 (s3:Int)]from by(with_reducible (repeat' (first|(refine VB.new' ?_;exact(by first|omega|(simp;done)|(simp;omega)))|apply VB.put2|apply VB.put3|apply VB.put5|refine VB.drew ?_|refine VB.far ?_ ?_ _|refine VB.alloc ?_ _|omega|(simp;done)|(simp;omega)))))
   have HBA:=Lib.hid (show Below W.heap.size W (wr.alloc (.cells #[.int .i64 (s1:Int),.int .i64 (s2:Int),.int .i64 (s3:Int)] 63))from HQ.out.trans ((Below.refl _ _).alloc (by omega) _))
   have hsA:(wr.alloc (.cells #[.int .i64 (s1:Int),.int .i64 (s2:Int),.int .i64 (s3:Int)] 63)).heap.size=wr.heap.size+1:=by simp
   replace y0:(wr.alloc (.cells #[.int .i64 (s1:Int),.int .i64 (s2:Int),.int .i64 (s3:Int)] 63)).cell? ⟨tb,0,none⟩=_:=(HBA.out.cell (p:=⟨tb,0,none⟩) htl).trans Y0.out
   replace y1:(wr.alloc (.cells #[.int .i64 (s1:Int),.int .i64 (s2:Int),.int .i64 (s3:Int)] 63)).cell? ⟨tb,1,none⟩=_:=(HBA.out.cell (p:=⟨tb,1,none⟩) htl).trans Y1.out
   replace y2:(wr.alloc (.cells #[.int .i64 (s1:Int),.int .i64 (s2:Int),.int .i64 (s3:Int)] 63)).cell? ⟨tb,2,none⟩=_:=(HBA.out.cell (p:=⟨tb,2,none⟩) htl).trans Y2.out
   replace y3:(wr.alloc (.cells #[.int .i64 (s1:Int),.int .i64 (s2:Int),.int .i64 (s3:Int)] 63)).cell? ⟨tb,3,none⟩=_:=(HBA.out.cell (p:=⟨tb,3,none⟩) htl).trans Y3.out
   replace y4:(wr.alloc (.cells #[.int .i64 (s1:Int),.int .i64 (s2:Int),.int .i64 (s3:Int)] 63)).cell? ⟨tb,4,none⟩=_:=(HBA.out.cell (p:=⟨tb,4,none⟩) htl).trans Y4.out
   generalize (wr.alloc (.cells #[.int .i64 (s1:Int),.int .i64 (s2:Int),.int .i64 (s3:Int)] 63))=wa at *
   clear u0 u1 u2 x2
   obtain ⟨sb,hsb⟩:∃q,wr.heap.size=q:=⟨_,rfl⟩
   rw [hsb]at HVS hsA hszq hvr hgsr htr ⊢
   have hsb0:W.heap.size≤sb:=by omega
   have hsba:sb<wa.heap.size:=by omega
   have hWa:W.heap.size≤wa.heap.size:=by omega
   clear hsA hszq hsb
   have f0:=HVS.out.c 0 _ rfl
   have f1:=HVS.out.c 1 _ rfl
   have f2:=HVS.out.c 2 _ rfl
   have htla:tb<wa.heap.size:=by omega
   have hvla:mb<wa.heap.size:=by omega
   go_wp2_with fail
   refine(HSIDE.out _ HBA.out).mono ?_
   rintro e w5 ⟨gl,rfl,hgl,hgla,g0,g1,g2,hg5⟩
   have hsz5:=hg5.size
   have HVS5:=Lib.hid (HVS.out.gr hg5 hsba)
   have HB5:=Lib.hid (HBA.out.trans (hg5.below.mono hWa))
   clear f0 f1 f2 y0 y1 y2 y3 y4 hg5 HVS HBA HQ
   have y0:=(HB5.out.cell (p:=⟨tb,0,none⟩) htl).trans Y0.out
   have y1:=(HB5.out.cell (p:=⟨tb,1,none⟩) htl).trans Y1.out
   have y2:=(HB5.out.cell (p:=⟨tb,2,none⟩) htl).trans Y2.out
   have y3:=(HB5.out.cell (p:=⟨tb,3,none⟩) htl).trans Y3.out
   have y4:=(HB5.out.cell (p:=⟨tb,4,none⟩) htl).trans Y4.out
   have f0:=HVS5.out.c 0 _ rfl
   have f1:=HVS5.out.c 1 _ rfl
   have f2:=HVS5.out.c 2 _ rfl
   have hsb5:sb<w5.heap.size:=by omega
   have htb5:tb<w5.heap.size:=by omega
   have hmb5:mb<w5.heap.size:=by omega
   have hW5:W.heap.size≤w5.heap.size:=by omega
   have x0:=(HB5.out.cell (p:=⟨mb,0,none⟩) hvl).trans X0.out
   obtain ⟨A,hA9⟩:∃A,m.pts[s1]=A:=⟨_,rfl⟩
   obtain ⟨B,hB9⟩:∃B,m.pts[s2]=B:=⟨_,rfl⟩
   have HMid:=Lib.hid (fun W=>pt_Mid A B W (HPT.out A (hA9 ▸ List.getElem_mem h1)) (HPT.out B (hB9 ▸ List.getElem_mem h2)))
   rw [List.getD_eq_getElem?_getD,List.getD_eq_getElem?_getD,List.getElem?_eq_getElem h1,List.getElem?_eq_getElem h2,hA9,hB9]at hmid
   replace hmid:(atM 2 m)[kk]=midP A B:=hmid
   obtain ⟨P,hP9⟩:∃P,midP A B=P:=⟨_,rfl⟩
   simp only [hP9]at HMid hmid
   have hkN:kk<N:=by rw [←HN.out];exact hkk
   obtain ⟨gp,cp',e4,_,_,_,hsp,hRp⟩:=HP.out.block (by intro e;rw [e]at h1;simp at h1)
   injection e4 with e4 _ e5
   subst e4 e5
   have hgp:=hsp.lt
   obtain ⟨ga,ca,e4,_,_,_,hsa,hRa⟩:=HA.out.block (by intro e;rw [e]at hkk;simp at hkk)
   injection e4 with e4 e6 e5
   clear e6
   subst e4 e5
   have hga:=hsa.lt
   obtain ⟨a0,a1,a2,a3,a4,a5,a6,a7,a8,a9⟩:=hRp.fPt h1 hA9
   obtain ⟨b0,b1,b2,b3,b4,b5,b6,b7,b8,b9⟩:=hRp.fPt h2 hB9
   obtain ⟨d0,d1,d2,d3,d4,d5,d6,d7,d8,d9⟩:=hRa.fPt hkk hmid
   rw [←HB5.out.cell (p:=⟨gp,s1*10,none⟩) hgp]at a0
   rw [←HB5.out.cell (p:=⟨gp,s1*10+1,none⟩) hgp]at a1
   rw [←HB5.out.cell (p:=⟨gp,s1*10+2,none⟩) hgp]at a2
   rw [←HB5.out.cell (p:=⟨gp,s1*10+3,none⟩) hgp]at a3
   rw [←HB5.out.cell (p:=⟨gp,s1*10+4,none⟩) hgp]at a4
   rw [←HB5.out.cell (p:=⟨gp,s1*10+5,none⟩) hgp]at a5
   rw [←HB5.out.cell (p:=⟨gp,s1*10+6,none⟩) hgp]at a6
   rw [←HB5.out.cell (p:=⟨gp,s1*10+7,none⟩) hgp]at a7
   rw [←HB5.out.cell (p:=⟨gp,s1*10+8,none⟩) hgp]at a8
   rw [←HB5.out.cell (p:=⟨gp,s1*10+9,none⟩) hgp]at a9
   rw [←HB5.out.cell (p:=⟨gp,s2*10,none⟩) hgp]at b0
   rw [←HB5.out.cell (p:=⟨gp,s2*10+1,none⟩) hgp]at b1
   rw [←HB5.out.cell (p:=⟨gp,s2*10+2,none⟩) hgp]at b2
   rw [←HB5.out.cell (p:=⟨gp,s2*10+3,none⟩) hgp]at b3
   rw [←HB5.out.cell (p:=⟨gp,s2*10+4,none⟩) hgp]at b4
   rw [←HB5.out.cell (p:=⟨gp,s2*10+5,none⟩) hgp]at b5
   rw [←HB5.out.cell (p:=⟨gp,s2*10+6,none⟩) hgp]at b6
   rw [←HB5.out.cell (p:=⟨gp,s2*10+7,none⟩) hgp]at b7
   rw [←HB5.out.cell (p:=⟨gp,s2*10+8,none⟩) hgp]at b8
   rw [←HB5.out.cell (p:=⟨gp,s2*10+9,none⟩) hgp]at b9
   rw [←HB5.out.cell (p:=⟨ga,kk*10,none⟩) hga]at d0
   rw [←HB5.out.cell (p:=⟨ga,kk*10+1,none⟩) hga]at d1
   rw [←HB5.out.cell (p:=⟨ga,kk*10+2,none⟩) hga]at d2
   rw [←HB5.out.cell (p:=⟨ga,kk*10+3,none⟩) hga]at d3
   rw [←HB5.out.cell (p:=⟨ga,kk*10+4,none⟩) hga]at d4
   rw [←HB5.out.cell (p:=⟨ga,kk*10+5,none⟩) hga]at d5
   rw [←HB5.out.cell (p:=⟨ga,kk*10+6,none⟩) hga]at d6
   rw [←HB5.out.cell (p:=⟨ga,kk*10+7,none⟩) hga]at d7
   rw [←HB5.out.cell (p:=⟨ga,kk*10+8,none⟩) hga]at d8
   rw [←HB5.out.cell (p:=⟨ga,kk*10+9,none⟩) hga]at d9
   clear hRp hRa hsp hsa hA9 hB9 hmid hP9 hkk
   have hgp5:gp<w5.heap.size:=by omega
   have hga5:ga<w5.heap.size:=by omega
   have z1:(s1:Int)<(m.pts.length:Int):=by omega
   have z2:(s2:Int)<(m.pts.length:Int):=by omega
   have z10:(0:Int)≤(s1:Int):=by omega
   have z20:(0:Int)≤(s2:Int):=by omega
   have z3:(kk:Int)<(N:Int):=by omega
   have z30:(0:Int)≤(kk:Int):=by omega
   go_upto_region 28 with fail
   refine wp_region_held_drew (S:=(fun w'=>w'.cell? ⟨tb,0,none⟩=some (.int .i64 2)∧w'.cell? ⟨tb,1,none⟩=some (.int .i64 (N:Int))∧w'.cell? ⟨tb,2,none⟩=some (.slice ax m.tris.length cx)∧w'.cell? ⟨tb,3,none⟩=some (.slice (some ⟨ga,0,none⟩) N cy)∧w'.cell? ⟨tb,4,none⟩=some (.slice az E cz)∧w'.cell? ⟨sb,0,none⟩=some (.int .i64 (s1:Int))∧w'.cell? ⟨sb,1,none⟩=some (.int .i64 (s2:Int))∧w'.cell? ⟨sb,2,none⟩=some (.int .i64 (s3:Int))∧w'.cell? ⟨gl,0,none⟩=some (.int .i64 (s2:Int))∧w'.cell? ⟨gl,1,none⟩=some (.int .i64 (s1:Int))∧w'.cell? ⟨gl,2,none⟩=some (.int .i64 (kk:Int))∧w'.cell? ⟨mb,0,none⟩=some (.slice (some ⟨gp,0,none⟩) m.pts.length cp)∧w'.cell? ⟨gp,s1*10,none⟩=some (.int .u64 (lowN (sz A.x.num)))∧w'.cell? ⟨gp,s1*10+1,none⟩=some (.string (bigS (sz A.x.num)))∧w'.cell? ⟨gp,s1*10+2,none⟩=some (.bool (ng A.x.num))∧w'.cell? ⟨gp,s1*10+3,none⟩=some (.int .u64 (lowN (fm A.x)))∧w'.cell? ⟨gp,s1*10+4,none⟩=some (.string (bigS (fm A.x)))∧w'.cell? ⟨gp,s1*10+5,none⟩=some (.int .u64 (lowN (sz A.y.num)))∧w'.cell? ⟨gp,s1*10+6,none⟩=some (.string (bigS (sz A.y.num)))∧w'.cell? ⟨gp,s1*10+7,none⟩=some (.bool (ng A.y.num))∧w'.cell? ⟨gp,s1*10+8,none⟩=some (.int .u64 (lowN (fm A.y)))∧w'.cell? ⟨gp,s1*10+9,none⟩=some (.string (bigS (fm A.y)))∧w'.cell? ⟨gp,s2*10,none⟩=some (.int .u64 (lowN (sz B.x.num)))∧w'.cell? ⟨gp,s2*10+1,none⟩=some (.string (bigS (sz B.x.num)))∧w'.cell? ⟨gp,s2*10+2,none⟩=some (.bool (ng B.x.num))∧w'.cell? ⟨gp,s2*10+3,none⟩=some (.int .u64 (lowN (fm B.x)))∧w'.cell? ⟨gp,s2*10+4,none⟩=some (.string (bigS (fm B.x)))∧w'.cell? ⟨gp,s2*10+5,none⟩=some (.int .u64 (lowN (sz B.y.num)))∧w'.cell? ⟨gp,s2*10+6,none⟩=some (.string (bigS (sz B.y.num)))∧w'.cell? ⟨gp,s2*10+7,none⟩=some (.bool (ng B.y.num))∧w'.cell? ⟨gp,s2*10+8,none⟩=some (.int .u64 (lowN (fm B.y)))∧w'.cell? ⟨gp,s2*10+9,none⟩=some (.string (bigS (fm B.y)))∧w'.cell? ⟨ga,kk*10,none⟩=some (.int .u64 (lowN (sz P.x.num)))∧w'.cell? ⟨ga,kk*10+1,none⟩=some (.string (bigS (sz P.x.num)))∧w'.cell? ⟨ga,kk*10+2,none⟩=some (.bool (ng P.x.num))∧w'.cell? ⟨ga,kk*10+3,none⟩=some (.int .u64 (lowN (fm P.x)))∧w'.cell? ⟨ga,kk*10+4,none⟩=some (.string (bigS (fm P.x)))∧w'.cell? ⟨ga,kk*10+5,none⟩=some (.int .u64 (lowN (sz P.y.num)))∧w'.cell? ⟨ga,kk*10+6,none⟩=some (.string (bigS (sz P.y.num)))∧w'.cell? ⟨ga,kk*10+7,none⟩=some (.bool (ng P.y.num))∧w'.cell? ⟨ga,kk*10+8,none⟩=some (.int .u64 (lowN (fm P.y)))∧w'.cell? ⟨ga,kk*10+9,none⟩=some (.string (bigS (fm P.y))))) (by kernel_rfl) ?_ (fun hHeld=>?_)
   ·simp [go_sem, *]
   refine tk 0 (some 143) (.int .i64 0) ?_
   try simp only [pS]
   refine tk 1 (some 144) (.bool false) ?_
   try simp only [pS]
   refine tk 2 (some 145) (.bool false) ?_
   try simp only [pS]
   refine tk 3 (some 146) (.slice (some ⟨gl,0,none⟩) 3 3) ?_
   try simp only [pS]
   refine tk 4 (some 147) (.int .i64 3) ?_
   try simp only [pS]
   refine tk 5 (some 148) (.bool true) ?_
   try simp only [pS]
   refine rd 6 (fun K hK=>?_)
   go_simp
   (refine(HO.out _).mono ?_;rintro e w6 ⟨rfl,hg6⟩;(try (with_reducible replace hg6:=Gr.of_drew hg6));have hsz6:=hg6.size;(try simp at hsz6);have hy6_0:sb<w6.heap.size:=(by omega);have hy6_1:tb<w6.heap.size:=(by omega);have hy6_2:gl<w6.heap.size:=(by omega);have hy6_3:mb<w6.heap.size:=(by omega);have hy6_4:gp<w6.heap.size:=(by omega);have hy6_5:ga<w6.heap.size:=(by omega);obtain ⟨hc6,hf6⟩:=hg6.cells;have HG6:=Lib.hid hg6;clear hg6)
   (try dsimp only)
   refine hK.out _ _ ?_ (fun hQ1=>?_)
   ·(first|exact trivial|((try dsimp only);simp [go_sem, *]))
   clear hK K hHeld
   try simp only [pS]
   refine tk 7 (some 150) (.int .i64 3) ?_
   try simp only [pS]
   refine tk 8 (some 151) (.bool false) ?_
   try simp only [pS]
   refine tk 9 (some 152) (.bool false) ?_
   try simp only [pS]
   refine tk 10 (some 153) (.bool false) ?_
   try simp only [pS]
   refine tk 11 (some 154) (.slice (some ⟨gl,0,none⟩) 3 3) ?_
   try simp only [pS]
   refine tk 12 (some 155) (.pointer (some ⟨gl,0,none⟩)) ?_
   try simp only [pS]
   refine tk 13 (some 156) (.int .i64 (s2:Int)) ?_
   try simp only [pS]
   refine tk 14 (some 157) (.pointer (some ⟨sb,1,none⟩)) ?_
   try simp only [pS]
   refine tk 15 (some 158) (.int .i64 (s2:Int)) ?_
   try simp only [pS]
   refine tk 16 (some 159) (.bool false) ?_
   try simp only [pS]
   refine tk 17 (some 160) (.bool false) ?_
   try simp only [pS]
   refine tk 18 (some 161) (.bool false) ?_
   try simp only [pS]
   refine tk 19 (some 162) (.slice (some ⟨gl,0,none⟩) 3 3) ?_
   try simp only [pS]
   refine tk 20 (some 163) (.pointer (some ⟨gl,1,none⟩)) ?_
   try simp only [pS]
   refine tk 21 (some 164) (.int .i64 (s1:Int)) ?_
   try simp only [pS]
   refine tk 22 (some 165) (.pointer (some ⟨sb,0,none⟩)) ?_
   try simp only [pS]
   refine tk 23 (some 166) (.int .i64 (s1:Int)) ?_
   try simp only [pS]
   refine tk 24 (some 167) (.bool false) ?_
   try simp only [pS]
   refine tk 25 (some 168) (.bool false) ?_
   try simp only [pS]
   refine tk 26 (some 169) (.bool false) ?_
   try simp only [pS]
   refine tk 27 (some 170) (.bool true) ?_
   try simp only [pS]
   refine tk 28 (some 171) (.bool true) ?_
   try simp only [pS]
   refine tk 29 (some 172) (.pointer (some ⟨tb,3,none⟩)) ?_
   try simp only [pS]
   refine tk 30 (some 173) (.slice (some ⟨ga,0,none⟩) N cy) ?_
   try simp only [pS]
   refine tk 31 (some 174) (.slice (some ⟨gl,0,none⟩) 3 3) ?_
   try simp only [pS]
   refine tk 32 (some 175) (.pointer (some ⟨gl,2,none⟩)) ?_
   try simp only [pS]
   refine tk 33 (some 176) (.int .i64 (kk:Int)) ?_
   try simp only [pS]
   refine tk 34 (some 177) (.pointer (some ⟨ga,kk*10,none⟩)) ?_
   try simp only [pS]
   refine tk 35 (some 178) (.agg #[.int .u64 (lowN (sz P.x.num)),.string (bigS (sz P.x.num)),.bool (ng P.x.num),.int .u64 (lowN (fm P.x)),.string (bigS (fm P.x)),.int .u64 (lowN (sz P.y.num)),.string (bigS (sz P.y.num)),.bool (ng P.y.num),.int .u64 (lowN (fm P.y)),.string (bigS (fm P.y))]) ?_
   try simp only [pS]
   refine tk 36 (some 179) (.pointer (some ⟨mb,0,none⟩)) ?_
   try simp only [pS]
   refine tk 37 (some 180) (.slice (some ⟨gp,0,none⟩) m.pts.length cp) ?_
   try simp only [pS]
   refine tk 38 (some 181) (.pointer (some ⟨sb,0,none⟩)) ?_
   try simp only [pS]
   refine tk 39 (some 182) (.int .i64 (s1:Int)) ?_
   try simp only [pS]
   refine tk 40 (some 183) (.pointer (some ⟨gp,s1*10,none⟩)) ?_
   try simp only [pS]
   refine tk 41 (some 184) (.agg #[.int .u64 (lowN (sz A.x.num)),.string (bigS (sz A.x.num)),.bool (ng A.x.num),.int .u64 (lowN (fm A.x)),.string (bigS (fm A.x)),.int .u64 (lowN (sz A.y.num)),.string (bigS (sz A.y.num)),.bool (ng A.y.num),.int .u64 (lowN (fm A.y)),.string (bigS (fm A.y))]) ?_
   try simp only [pS]
   refine tk 42 (some 185) (.pointer (some ⟨mb,0,none⟩)) ?_
   try simp only [pS]
   refine tk 43 (some 186) (.slice (some ⟨gp,0,none⟩) m.pts.length cp) ?_
   try simp only [pS]
   refine tk 44 (some 187) (.pointer (some ⟨sb,1,none⟩)) ?_
   try simp only [pS]
   refine tk 45 (some 188) (.int .i64 (s2:Int)) ?_
   try simp only [pS]
   refine tk 46 (some 189) (.pointer (some ⟨gp,s2*10,none⟩)) ?_
   try simp only [pS]
   refine tk 47 (some 190) (.agg #[.int .u64 (lowN (sz B.x.num)),.string (bigS (sz B.x.num)),.bool (ng B.x.num),.int .u64 (lowN (fm B.x)),.string (bigS (fm B.x)),.int .u64 (lowN (sz B.y.num)),.string (bigS (sz B.y.num)),.bool (ng B.y.num),.int .u64 (lowN (fm B.y)),.string (bigS (fm B.y))]) ?_
   try simp only [pS]
   refine rd 48 (fun K hK=>?_)
   go_simp
   (refine(HMid.out _).mono ?_;rintro e w7 ⟨rfl,hg7⟩;(try (with_reducible replace hg7:=Gr.of_drew hg7));have hsz7:=hg7.size;(try simp at hsz7);have hy7_0:sb<w7.heap.size:=(by omega);have hy7_1:tb<w7.heap.size:=(by omega);have hy7_2:gl<w7.heap.size:=(by omega);have hy7_3:mb<w7.heap.size:=(by omega);have hy7_4:gp<w7.heap.size:=(by omega);have hy7_5:ga<w7.heap.size:=(by omega);obtain ⟨hc7,hf7⟩:=hg7.cells;have HG7:=Lib.hid hg7;clear hg7)
   (try dsimp only)
   refine hK.out _ _ ?_ (fun hQ2=>?_)
   ·(first|exact trivial|((try dsimp only);simp [go_sem, *]))
   clear hK K hQ1
   try simp only [pS]
   refine tk 49 (some 192) (.bool false) ?_
   try simp only [pS]
   refine tk 50 (some 193) (.bool false) ?_
   try simp only [pS]
   refine tk 51 (some 194) (.bool false) ?_
   try simp only [pS]
   refine tk 52 (some 195) (.bool false) ?_
   try simp only [pS]
   refine tk 53 (some 196) (.agg #[.int .i64 2,.int .i64 (N:Int),.slice ax m.tris.length cx,.slice (some ⟨ga,0,none⟩) N cy,.slice az E cz]) ?_
   try simp only [pS]
   refine tk 54 (some 197) (.agg #[.int .i64 (s1:Int),.int .i64 (s2:Int),.int .i64 (s3:Int)]) ?_
   try simp only [pS]
   refine tk 55 (some 198) (.agg #[.int .i64 (s1:Int),.int .i64 (s2:Int),.int .i64 (s3:Int)]) ?_
   try simp only [pS]
   refine tk 59 (some 202) (.slice (some ⟨gl,0,none⟩) 3 3) ?_
   try simp only [pS]
   refine tk 60 (some 203) (.int .i64 3) ?_
   try simp only [pS]
   refine rd 56 (fun K hK=>?_)
   go_simp
   (try dsimp only)
   refine hK.out _ _ ?_ (fun hQ3=>?_)
   ·(first|exact trivial|((try dsimp only);simp [go_sem, *]))
   clear hK K hQ2
   try simp only [pS]
   refine rd 57 (fun K hK=>?_)
   go_simp
   (refine(HON.out _ _ (HB5.out.trans ((show Gr w5.heap.size w5 _ from by(with_reducible (repeat' (first|exact Gr.refl _ _|refine Gr.drew ?_|refine Gr.setCell ?_ ?_ _|refine Gr.alloc ?_ ?_ _|refine Gr.trans ?_ (Gr.mono HG7.out ?_)|refine Gr.trans ?_ (Gr.mono HG6.out ?_)|omega|(simp;done)|(simp;omega))))).below.mono hW5)) (SL.new' (l:= [((s1,s2,s3):Tri),(s1,s2,s3)]) triC_len _ rfl rfl (Nat.zero_le _) (by simp [maxLen]) rfl).sr).mono ?_;rintro e w9 ⟨av,rfl,hb9⟩;have hz9:=hb9.size;(try simp at hz9);have HB9:=Lib.hid (HB5.out.trans (((show Gr w5.heap.size w5 _ from by(with_reducible (repeat' (first|exact Gr.refl _ _|refine Gr.drew ?_|refine Gr.setCell ?_ ?_ _|refine Gr.alloc ?_ ?_ _|refine Gr.trans ?_ (Gr.mono HG7.out ?_)|refine Gr.trans ?_ (Gr.mono HG6.out ?_)|omega|(simp;done)|(simp;omega))))).below.trans (hb9.mono (by first|omega|(simp;done)|(simp;omega)))).mono hW5));obtain ⟨hc9,hf9⟩:=below_cells hb9;clear hb9)
   (try dsimp only)
   refine hK.out _ _ ?_ (fun hQ4=>?_)
   ·(first|exact trivial|((try dsimp only);simp [go_sem, *]))
   clear hK K hQ3
   try simp only [pS]
   refine tk 58 (some 201) (.int .i64 3) ?_
   try simp only [pS]
   refine tk 61 (some 204) (.bool false) ?_
   try simp only [pS]
   refine tk 62 (some 205) (.bool false) ?_
   try simp only [pS]
   refine wpAnyH_done (by kernel_rfl) ?_ _
   clear hc9 hf9
   go_wp2
   go_roundw
   case rel=>exact⟨i+1,by omega,by go_num,Lib.hid (by first|exact HB9.out|exact HB9.out.drew)⟩
   case measure=>simp [intOf];omega
  ·have hil:i=m.sides.length:=by omega
   subst hil
   go_wp2_with fail
   refine(law_lives _).mono ?_
   rintro e w9 ⟨rfl,hb9⟩
   have HB9:=Lib.hid hb9
   clear hb9
   go_wp2
   go_ret
   exact⟨rfl,HBW.out.trans ((HQ.out.trans ((show Gr wr.heap.size wr _ from by(with_reducible (repeat' (first|exact Gr.refl _ _|refine Gr.drew ?_|refine Gr.setCell ?_ ?_ _|refine Gr.alloc ?_ ?_ _|omega|(simp;done)|(simp;omega))))).below.trans (HB9.out.mono (by simp)) |>.mono hszq)).mono hsw)⟩
end Go.Proofs.YtmbmeggbojfecaaGreat
namespace Go.Proofs.YtmbmeggbojfecaaGreat
open Go.RowKit Gus Go.Maps
theorem hp_midP (a b:Pt) (ha:hp a≤1000000) (hb:hp b≤1000000):hp (midP a b)≤1000000000:=by
 unfold hp at ha hb
 have h1:=hw_add a.x b.x
 have h2:=hw_add a.y b.y
 have h3:=hw_mul (a.x+b.x) (1 / 2)
 have h4:=hw_mul (a.y+b.y) (1 / 2)
 have h5:hw ((1:Rat) / 2)≤1000:=by decide+kernel
 unfold hp midP
 simp only
 omega
theorem RawM.hpS (x:RawM):∀p∈x.mesh.pts,hp p≤10:=(x.net.goodO x.det x.smallK x.d_pos.1 x.d_pos.2 (sd:=x.sd)).hp_
theorem RawM.atHp (x:RawM) (o:Nat):∀p∈atM o x.mesh,hp p≤1000000000:=by
 intro p hp'
 have h0:=x.hpS
 unfold atM at hp'
 split at hp'
 ·rcases List.mem_append.1 hp' with h|h
  ·have:=h0 p h;omega
  ·obtain ⟨e,he,rfl⟩:=List.mem_map.1 h
   have he':e∈esM x.tris:=he
   obtain ⟨ea,eb,hEa,hEb,la,lb⟩:=esM_Ends x.good e he'
   have q1:ea<x.mesh.pts.length:=by rw [x.ptsN];exact la
   have q2:eb<x.mesh.pts.length:=by rw [x.ptsN];exact lb
   unfold midE
   rw [hEa,hEb,Int.toNat_natCast,Int.toNat_natCast,List.getD_eq_getElem?_getD,List.getD_eq_getElem?_getD,List.getElem?_eq_getElem q1,List.getElem?_eq_getElem q2]
   have u1:=h0 _ (List.getElem_mem q1)
   have u2:=h0 _ (List.getElem_mem q2)
   exact hp_midP _ _ (by simp only [Option.getD_some];omega) (by simp only [Option.getD_some];omega)
 ·have:=h0 p hp';omega
theorem rim_any (x:RawM) (o:Nat) (ho:o=1∨o=2) (k:Nat) (hk:k<(atM o x.mesh).length):(x.mesh.sides.any (onS3 x.mesh (atM o x.mesh)[k]))=decide (k∈onS o (numM o x.mesh) ((esM x.mesh.tris).map abE) x.mesh.sides):=by
 rw [Bool.eq_iff_iff,List.any_eq_true,decide_eq_true_iff,mem_onS]
 have key:∀s∈x.mesh.sides,(onS3 x.mesh (atM o x.mesh)[k] s=true↔k∈sideD o (numM o x.mesh) ((esM x.mesh.tris).map abE) s):=by
  intro s hs
  have hs':s∈x.sd:=hs
  obtain ⟨b1,b2,-⟩:=x.side s hs'
  have q1:s.1<x.mesh.pts.length:=by rw [x.ptsN];exact b1
  have q2:s.2.1<x.mesh.pts.length:=by rw [x.ptsN];exact b2
  have h:=rim_law x o ho hs' (j:=k) (p:=(atM o x.mesh)[k]) (a:=x.mesh.pts[s.1]) (b:=x.mesh.pts[s.2.1]) (List.getElem?_eq_getElem hk) (List.getElem?_eq_getElem q1) (List.getElem?_eq_getElem q2)
  unfold onS3
  rw [List.getD_eq_getElem?_getD,List.getD_eq_getElem?_getD,List.getElem?_eq_getElem q1,List.getElem?_eq_getElem q2]
  exact h
 constructor
 ·rintro ⟨s,hs,h⟩
  exact⟨s,hs,(key s hs).1 h⟩
 ·rintro ⟨s,hs,h⟩
  exact⟨s,hs,(key s hs).2 h⟩
def SideOk (o:Nat) (m:Msh) (s:Tri):Prop:=s.1≠s.2.1∧s.1<m.pts.length∧s.2.1<m.pts.length∧∃i:Nat,i<(esM m.tris).length∧pairNo ((esM m.tris).map abE) ((min s.1 s.2.1:Nat):Int) ((max s.1 s.2.1:Nat):Int)=(i:Int)∧(o=2→(atM 2 m)[m.pts.length+i]? =some (midP (m.pts.getD s.1 ⟨0,0⟩) (m.pts.getD s.2.1 ⟨0,0⟩)))
theorem RawM.sideOk (x:RawM) (o:Nat):∀s∈x.mesh.sides,SideOk o x.mesh s:=by
 intro s hs
 have hs':s∈x.sd:=hs
 obtain ⟨h1,h2⟩:=side_edge x hs'
 obtain ⟨b1,b2,-⟩:=x.side s hs'
 obtain ⟨i,hi,hea,heb,hno⟩:=edge_no x h1 h2
 refine⟨by omega,by rw [x.ptsN];exact b1,by rw [x.ptsN];exact b2,i,hi,?_,fun _=>?_⟩
 ·rw [Nat.min_eq_left (Nat.le_of_lt h1),Nat.max_eq_right (Nat.le_of_lt h1)]
  exact hno
 ·unfold atM
  rw [if_pos rfl,List.getElem?_append_right (Nat.le_add_right _ _),Nat.add_sub_cancel_left,List.getElem?_map,List.getElem?_eq_getElem (show i<(esM x.mesh.tris).length from hi)]
  show some (midE x.mesh.pts (esM x.tris)[i])=_
  unfold midE
  rw [hea,heb,Int.toNat_natCast,Int.toNat_natCast]
theorem SideOk.good {o:Nat} {m:Msh} {s:Tri} (h:SideOk o m s) (hP:m.pts.length≤1000):goodS ((esM m.tris).map abE) s:=by
 obtain ⟨_,h1,h2,i,hi,hno,_⟩:=h
 exact⟨by omega,by omega,i,by rw [List.length_map];exact hi,hno⟩
theorem on_two {o:Nat} {m:Msh} {s:Tri} (ho:o=1∨o=2) (h:SideOk o m s):(onS o (numM o m) ((esM m.tris).map abE) [s,s]).length=o+1:=by
 obtain ⟨hne,h1,h2,i,hi,hno,-⟩:=h
 have hD:sideD o (numM o m) ((esM m.tris).map abE) s= [s.1,s.2.1]++(if o=2 then [m.pts.length+i]else []):=by
  unfold sideD sideL
  rw [hno,Int.toNat_natCast,List.length_map]
  rcases ho with rfl|rfl
  ·rfl
  ·simp only [if_true,numM]
   rw [show m.pts.length+(esM m.tris).length - (esM m.tris).length+i=m.pts.length+i by omega]
 have hp:(onS o (numM o m) ((esM m.tris).map abE) [s,s]).Perm (sideD o (numM o m) ((esM m.tris).map abE) s):=by
  refine(List.perm_ext_iff_of_nodup (onS_nodup _ _ _ _) ?_).2 (fun y=>?_)
  ·rw [hD]
   rcases ho with rfl|rfl
   ·simp [hne]
   ·simp
    omega
  ·rw [mem_onS]
   simp
 rw [hp.length_eq,hD]
 rcases ho with rfl|rfl<;>simp
end Go.Proofs.YtmbmeggbojfecaaGreat
namespace Go.Proofs.YtmbmeggbojfecaaGreat
open Go.RowKit Gus Go.Maps
theorem IR.row {w:World} {B:Nat} {v:Value} {l:List Nat} (h:IR w B v l) (hl:l≠ []):∃gl,v= .slice (some ⟨gl,0,none⟩) l.length l.length∧B≤gl∧gl<w.heap.size∧∀(k x:Nat),l[k]? =some x→w.cell? ⟨gl,k,none⟩=some (.int .i64 (x:Int)):=by
 obtain ⟨hS,a,rfl⟩:=h
 obtain ⟨g,cap,e,hB,_,_,hsh,hR⟩:=hS.block hl
 injection e with e1 e2 e3
 subst e1 e3
 exact⟨g,rfl,hB,hsh.lt,fun k x hk=>by obtain ⟨h1,h2⟩:=List.getElem?_eq_some_iff.1 hk;exact hR.fI h1 h2⟩
theorem side_at (o:Nat) (m:Msh) (ho:o=1∨o=2) (N E:Nat) (hNE:numM o m=N∧(esM m.tris).length=E) (hT:m.tris.length≤1000) (hP:m.pts.length≤1000) (x y:Value) (az:Option Addr) (cz:Nat) (s:Tri) (i:Nat) (hi:i<E) (hno:pairNo ((esM m.tris).map abE) ((min s.1 s.2.1:Nat):Int) ((max s.1 s.2.1:Nat):Int)=(i:Int)) (W:World) (hZ:SR i2C 2 86 W 0 (.slice az E cz) ((esM m.tris).map abE)):
  Calls Tryz.prog 13 #[tabV o N x y (.slice az E cz),.int .i64 (s.2.1:Int),.int .i64 (s.1:Int)] W (fun e w'=> ∃v,e= .returned (.tuple #[v,.int .i64 0])∧IR w' W.heap.size v ([s.2.1,s.1]++(if o=2 then [m.pts.length+i]else []))∧Gr W.heap.size W w'):=by
 obtain ⟨h1,h2⟩:=hNE
 have hl:=esM_len m.tris
 have hN5:N≤5000:=by rw [←h1];unfold numM;split<;>omega
 have hll:((esM m.tris).map abE).length=E:=by rw [List.length_map];exact h2
 have h:=df_Side o N x y (.slice az E cz) ((esM m.tris).map abE) s.2.1 s.1 i W ho hZ (by omega) (by omega) (fun e=>by rw [hll,←h1,←h2];unfold numM;rw [if_pos e];omega) (by omega) (by rw [Nat.min_comm,Nat.max_comm];exact hno)
 have e:sideL o N ((esM m.tris).map abE).length s.2.1 s.1 i= [s.2.1,s.1]++(if o=2 then [m.pts.length+i]else []):=by
  unfold sideL
  rw [hll]
  rcases ho with rfl|rfl
  ·rfl
  ·simp only [if_true]
   rw [←h1,←h2]
   unfold numM
   rw [if_pos rfl,show m.pts.length+(esM m.tris).length - (esM m.tris).length+i=m.pts.length+i by omega]
 rw [e]at h
 exact h
theorem on_at (o:Nat) (m:Msh) (ho:o=1∨o=2) (N E:Nat) (hNE:numM o m=N∧(esM m.tris).length=E) (hT:m.tris.length≤1000) (hP:m.pts.length≤1000) (x y:Value) (az:Option Addr) (cz:Nat) (s:Tri) (hs:SideOk o m s) (W:World) (vs:Value) (hZ:SR i2C 2 86 W 0 (.slice az E cz) ((esM m.tris).map abE)) (hQ:SR triC 3 63 W 0 vs [s,s]):
  Calls Tryz.prog 11 #[tabV o N x y (.slice az E cz),vs] W (fun e w'=> ∃a,e= .returned (.slice a (o+1) (o+1))∧Below W.heap.size W w'):=by
 obtain ⟨h1,h2⟩:=hNE
 have hl:=esM_len m.tris
 have hN5:N≤5000:=by rw [←h1];unfold numM;split<;>omega
 have hll:((esM m.tris).map abE).length=E:=by rw [List.length_map];exact h2
 refine(df_On o N x y (.slice az E cz) vs ((esM m.tris).map abE) [s,s] W ho hZ hQ (by omega) (by omega) (fun e=>by rw [hll,←h1,←h2];unfold numM;rw [if_pos e];omega) (by simp) (fun t ht=>by
  have e:t=s:=by simpa using ht
  rw [e]
  exact hs.good hP)).mono ?_
 rintro e w' ⟨v,R,rfl,hR,-,⟨-,a,rfl⟩,hb⟩
 have hR2:R.length=o+1:=by rw [hR.length_eq,←h1];exact on_two ho hs
 exact⟨a,by rw [hR2],hb⟩
variable {vv0 vv1 vv2 vv3 vv4 vv5 vv6 vv7 vv8 vv9 vv10 vv11 vv12 vv13 vv14 vv15 vv16 vv17 vv18 vv19 vv20 vv21 vv22 vv23 vv24 vv25 vv26 vv27 vv28 vv29 vv30 vv31 vv32 vv33 vv34 vv35 vv36 vv37 vv38 vv39 vv40 vv41 vv42 vv43 vv44 vv45 vv46 vv47 vv48 vv49 vv50 vv51 vv52 vv53 vv54 vv55 vv56 vv57 vv58 vv59 vv60 vv61 vv62 vv63 vv64 vv65 vv66 vv67 vv68 vv69 vv70 vv71 vv72 vv73 vv74 vv75 vv76 vv77 vv78 vv79 vv80 vv81 vv82 vv83 vv84 vv85 vv86 vv87 vv88 vv89 vv90 vv91 vv92 vv93 vv94 vv95 vv96 vv97 vv98 vv99 vv100 vv101 vv102 vv103 vv104 vv105 vv106 vv107 vv108 vv109 vv110 vv111 vv112 vv113 vv114 vv115 vv116 vv117 vv118 vv119 vv120 vv121 vv122 vv123 vv124 vv125 vv126 vv127 vv128 vv129 vv130 vv131 vv132 vv133 vv134 vv135 vv136 vv137 vv138 vv139 vv140 vv141 vv142 vv143 vv144 vv145 vv146 vv147 vv148 vv149 vv150 vv151 vv152 vv153 vv154 vv155 vv156 vv157 vv158 vv159 vv160 vv161 vv162 vv163 vv164 vv165 vv166 vv167 vv168 vv169 vv170 vv171 vv172 vv173 vv174 vv175 vv176 vv177 vv178 vv179 vv180 vv181 vv182 vv183 vv184 vv185 vv186 vv187 vv188 vv189 vv190 vv191 vv192 vv193 vv194 vv195 vv196 vv197 vv198 vv199 vv200 vv201 vv202 vv203 vv204 vv205 vv206:Value}
set_option maxRecDepth 20000 in
set_option maxHeartbeats 8000000 in
theorem rim23 (w W:World) (two:Bool) (m:Msh) (o N E mb tb:Nat) (ho:o=ordN two) (ap at_ as_ ax ay az:Option Addr) (cp ct cs cx cy cz:Nat) (hb:Below w.heap.size w W) (hV:VB W mb [.slice ap m.pts.length cp,.slice at_ m.tris.length ct,.slice as_ m.sides.length cs]) (hT:VB W tb [.int .i64 (o:Int),.int .i64 (N:Int),.slice ax m.tris.length cx,.slice ay N cy,.slice az E cz]) (hP:SR pC 10 57 W 0 (.slice ap m.pts.length cp) m.pts) (hS:SR triC 3 63 W 0 (.slice as_ m.sides.length cs) m.sides) (hA:SR pC 10 57 W 0 (.slice ay N cy) (atM o m)) (hZ:SR i2C 2 86 W 0 (.slice az E cz) ((esM m.tris).map abE)) (hNE:numM o m=N∧(esM m.tris).length=E) (hTl:m.tris.length≤1000) (hPl:m.pts.length≤1000) (hSl:m.sides.length≤200000)
  (hpt:∀p∈m.pts,hp p≤1000000000) (hsd:∀s∈m.sides,SideOk o m s):
  Code.wp Tryz.prog (tlR 23) (bodyPost Tryz.prog Tryz.f5 (fun e w'=>e= .returned (.bool true)∧Below w.heap.size w w')) {tmps:= #[vv0,.bool two,vv2,vv3,vv4,.pointer (some ⟨mb,0,none⟩),.pointer (some ⟨tb,0,none⟩),vv7,vv8,vv9,vv10,vv11,vv12,vv13,vv14,vv15,vv16,vv17,vv18,vv19,vv20,vv21,vv22,vv23,vv24,vv25,vv26,vv27,vv28,vv29,vv30,vv31,vv32,vv33,vv34,vv35,vv36,vv37,vv38,vv39,vv40,vv41,vv42,vv43,vv44,vv45,vv46,vv47,vv48,vv49,vv50,vv51,vv52,vv53,vv54,vv55,vv56,vv57,vv58,vv59,vv60,vv61,vv62,vv63,vv64,vv65,vv66,vv67,vv68,vv69,vv70,vv71,vv72,vv73,vv74,vv75,vv76,vv77,vv78,vv79,vv80,vv81,vv82,vv83,vv84,vv85,vv86,vv87,vv88,vv89,vv90,vv91,vv92,vv93,vv94,vv95,vv96,vv97,vv98,vv99,vv100,vv101,vv102,vv103,vv104,vv105,vv106,vv107,vv108,vv109,vv110,vv111,vv112,vv113,vv114,vv115,vv116,vv117,vv118,vv119,vv120,vv121,vv122,vv123,vv124,vv125,vv126,vv127,vv128,vv129,vv130,vv131,vv132,vv133,vv134,vv135,vv136,vv137,vv138,vv139,vv140,vv141,vv142,vv143,vv144,vv145,vv146,vv147,vv148,vv149,vv150,vv151,vv152,vv153,vv154,vv155,vv156,vv157,vv158,vv159,vv160,vv161,vv162,vv163,vv164,vv165,vv166,vv167,vv168,vv169,vv170,vv171,vv172,vv173,vv174,vv175,vv176,vv177,vv178,vv179,vv180,vv181,vv182,vv183,vv184,vv185,vv186,vv187,vv188,vv189,vv190,vv191,vv192,vv193,vv194,vv195,vv196,vv197,vv198,vv199,vv200,vv201,vv202,vv203,vv204,vv205,vv206],defers:= []} W:=by
 have hN:(atM o m).length=N:=by rw [atM_len];exact hNE.1
 have hsd2:∀s∈m.sides,s.1<m.pts.length∧s.2.1<m.pts.length:=fun s hs=>⟨(hsd s hs).2.1,(hsd s hs).2.2.1⟩
 cases two
 ·have ho1:o=1:=by rw [ho];rfl
  subst ho1
  refine rim23_1 w W m N E mb tb ap at_ as_ ax ay az cp ct cs cx cy cz hb hV hT hP hS hA hN (by omega) hsd2 hpt (fun s hs=>?_)
  obtain ⟨h1,h2,h3,i,hi,hno,-⟩:=hsd s hs
  refine⟨0,fun W' hW'=>?_,fun W' vs hW' hvs=>?_⟩
  ·refine(side_at 1 m (.inl rfl) N E hNE hTl hPl _ _ az cz s i (by omega) hno W' (hZ.bl hW')).mono ?_
   rintro e w' ⟨v,rfl,hI,hg⟩
   obtain ⟨gl,rfl,hB,hgl,hc⟩:=hI.row (by simp)
   exact⟨gl,rfl,hgl,hB,hc 0 _ rfl,hc 1 _ rfl,hg⟩
  ·exact on_at 1 m (.inl rfl) N E hNE hTl hPl _ _ az cz s (hsd s hs) W' vs (hZ.bl hW') hvs
 ·have ho1:o=2:=by rw [ho];rfl
  subst ho1
  refine rim23_2 w W m N E mb tb ap at_ as_ ax ay az cp ct cs cx cy cz hb hV hT hP hS hA hN (by omega) hsd2 hpt (fun s hs=>?_)
  obtain ⟨h1,h2,h3,i,hi,hno,hm⟩:=hsd s hs
  refine⟨m.pts.length+i,List.getElem?_eq_some_iff.1 (hm rfl),fun W' hW'=>?_,fun W' vs hW' hvs=>?_⟩
  ·refine(side_at 2 m (.inr rfl) N E hNE hTl hPl _ _ az cz s i (by omega) hno W' (hZ.bl hW')).mono ?_
   rintro e w' ⟨v,rfl,hI,hg⟩
   obtain ⟨gl,rfl,hB,hgl,hc⟩:=hI.row (by simp)
   exact⟨gl,rfl,hgl,hB,hc 0 _ rfl,hc 1 _ rfl,hc 2 _ rfl,hg⟩
  ·exact on_at 2 m (.inr rfl) N E hNE hTl hPl _ _ az cz s (hsd s hs) W' vs (hZ.bl hW') hvs
end Go.Proofs.YtmbmeggbojfecaaGreat
