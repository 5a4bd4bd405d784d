/-
  Part 44 of the proof: LawL.
-/
import Derived.Test.YtmelogdhllhjiaaGreatJ42
import Derived.Test.YtmelogdhllhjiaaGreatJ29
set_option linter.unusedSimpArgs false
set_option linter.unusedVariables false
namespace Go.Proofs.YtmelogdhllhjiaaGreat
open Go.RowKit Gus
abbrev k4V (n0:Int) (d0:Nat) (n1:Int) (d1:Nat) (n2:Int) (d2:Nat) (n3:Int) (d3:Nat):Value:= .agg #[.int .i64 n0,.int .u32 (d0:Int),.int .i64 n1,.int .u32 (d1:Int),.int .i64 n2,.int .u32 (d2:Int),.int .i64 n3,.int .u32 (d3:Int)]
theorem Gr.z {n:Nat} {a b:World} (h:Gr n a b:=by(with_reducible (repeat' (first|exact Gr.refl _ _|refine Gr.drew ?_|refine Gr.setCell ?_ ?_ _|refine Gr.alloc ?_ ?_ _|omega|(simp;done)|(simp;omega))))):Gr n a b:=h
theorem Gr.c {n m:Nat} {a b c d:World} (H:Hid (Gr m b c)) (k:Gr n a b) (t:Gr n c d:=by(with_reducible (repeat' (first|exact Gr.refl _ _|refine Gr.drew ?_|refine Gr.setCell ?_ ?_ _|refine Gr.alloc ?_ ?_ _|omega|(simp;done)|(simp;omega))))) (o:n≤m:=by(first|omega|(simp;done)|(simp;omega))):Gr n a d:=(k.trans (H.out.mono o)).trans t
theorem VB.all15 {w:World} {g:Nat} {c0 c1 c2 c3 c4 c5 c6 c7 c8 c9 ca cb cc cd ce:Value} (h:VB w g [c0,c1,c2,c3,c4,c5,c6,c7,c8,c9,ca,cb,cc,cd,ce]):w.cell? ⟨g,0,none⟩=some c0∧w.cell? ⟨g,1,none⟩=some c1∧w.cell? ⟨g,2,none⟩=some c2∧w.cell? ⟨g,3,none⟩=some c3∧w.cell? ⟨g,4,none⟩=some c4∧w.cell? ⟨g,5,none⟩=some c5∧w.cell? ⟨g,6,none⟩=some c6∧w.cell? ⟨g,7,none⟩=some c7∧w.cell? ⟨g,8,none⟩=some c8∧w.cell? ⟨g,9,none⟩=some c9∧w.cell? ⟨g,10,none⟩=some ca∧w.cell? ⟨g,11,none⟩=some cb∧w.cell? ⟨g,12,none⟩=some cc∧w.cell? ⟨g,13,none⟩=some cd∧w.cell? ⟨g,14,none⟩=some ce:=
 ⟨h.c 0 _ rfl,h.c 1 _ rfl,h.c 2 _ rfl,h.c 3 _ rfl,h.c 4 _ rfl,h.c 5 _ rfl,h.c 6 _ rfl,h.c 7 _ rfl,h.c 8 _ rfl,h.c 9 _ rfl,h.c 10 _ rfl,h.c 11 _ rfl,h.c 12 _ rfl,h.c 13 _ rfl,h.c 14 _ rfl⟩
def F2 (w:World) (g:Nat) (l m:List T):Prop:= ∃x y,VB w g [x,y]∧PL w 0 x l∧PL w 0 y m
theorem F2.gr {w w':World} {g:Nat} {l m:List T} (h:F2 w g l m) (hg:Gr w.heap.size w w'):F2 w' g l m:=by
 obtain ⟨x,y,h1,h2,h3⟩:=h
 exact⟨x,y,h1.gr hg h1.lt,h2.gr hg,h3.gr hg⟩
theorem F2.at {w:World} {g:Nat} {l m:List T} (h:F2 w g l m):∃a b c d,VB w g [.slice a l.length b,.slice c m.length d]∧PL w 0 (.slice a l.length b) l∧PL w 0 (.slice c m.length d) m:=by
 obtain ⟨x,y,h1,h2,h3⟩:=h
 obtain ⟨a,b,rfl⟩:=h2.at
 obtain ⟨c,d,rfl⟩:=h3.at
 exact⟨a,b,c,d,h1,h2,h3⟩
theorem F2.mk {w:World} {g:Nat} {l m:List T} {x y:Value} (h1:VB w g [x,y]) (h2:PL w 0 x l) (h3:PL w 0 y m):F2 w g l m:=⟨x,y,h1,h2,h3⟩
set_option maxRecDepth 20000 in
set_option maxHeartbeats 8000000 in
theorem law_long0 (n0 n1 n2 n3 n:Int) (d0 d1 d2 d3 d:Nat) (l0 l1:List TQ) (p0 p1:Option Addr) (m0 m1:Nat) (h1:20<l0.length) (hL:∀w,Calls Tryz.prog 4 #[] w (Ret w (.bool true))) (w:World):
  Calls Tryz.prog 3 #[k4V n0 d0 n1 d1 n2 d2 n3 d3,.agg #[.slice p0 l0.length m0,.slice p1 l1.length m1],qV n d] w (Ret w (.bool true)):=by
 have e1:decide ((20:Int)<(l0.length:Int))=true:=by simp;omega
 replace hL:=Lib.hid hL
 clear h1
 go_enter Tryz.func3,Tryz.ntmps3
 go_wp2_with fail
 (refine(hL.out _).mono ?_;rintro e w1 ⟨rfl,hg1⟩;(try (with_reducible replace hg1:=Gr.of_drew hg1));have hsz1:=hg1.size;(try simp at hsz1);skip;obtain ⟨hc1,hf1⟩:=hg1.cells;have HG1:=Lib.hid hg1;clear hg1)
 go_wp2
 go_ret
 exact⟨rfl,by exact .c HG1 .z⟩
set_option maxRecDepth 20000 in
set_option maxHeartbeats 8000000 in
theorem law_long1 (n0 n1 n2 n3 n:Int) (d0 d1 d2 d3 d:Nat) (l0 l1:List TQ) (p0 p1:Option Addr) (m0 m1:Nat) (h1:¬20<l0.length) (h2:20<l1.length) (hL:∀w,Calls Tryz.prog 4 #[] w (Ret w (.bool true))) (w:World):
  Calls Tryz.prog 3 #[k4V n0 d0 n1 d1 n2 d2 n3 d3,.agg #[.slice p0 l0.length m0,.slice p1 l1.length m1],qV n d] w (Ret w (.bool true)):=by
 have e1:decide ((20:Int)<(l0.length:Int))=false:=by simp;omega
 have e2:decide ((20:Int)<(l1.length:Int))=true:=by simp;omega
 replace hL:=Lib.hid hL
 clear h1 h2
 go_enter Tryz.func3,Tryz.ntmps3
 go_wp2_with fail
 (refine(hL.out _).mono ?_;rintro e w1 ⟨rfl,hg1⟩;(try (with_reducible replace hg1:=Gr.of_drew hg1));have hsz1:=hg1.size;(try simp at hsz1);skip;obtain ⟨hc1,hf1⟩:=hg1.cells;have HG1:=Lib.hid hg1;clear hg1)
 go_wp2
 go_ret
 exact⟨rfl,by exact .c HG1 .z⟩
structure Hyp (n0 n1 n2 n3 n:Int) (d0 d1 d2 d3 d:Nat) (l0 l1:List TQ) (p0 p1:Option Addr) (m0 m1:Nat) (a b c q r:Rat) (u zz vv auv s su sz' ssz t g0 g1 h0 h1 i0 i1 cn f0 f1 lx ly sx sy pl pp e0 e1:List T):Prop where
 ha:∀w,Calls Tryz.prog 5 #[qV n0 d0] w (Ret w (fracV a))
 hb:∀w,Calls Tryz.prog 5 #[qV n1 d1] w (Ret w (fracV b))
 hc:∀w,Calls Tryz.prog 5 #[qV n2 d2] w (Ret w (fracV c))
 hq:∀w,Calls Tryz.prog 5 #[qV n3 d3] w (Ret w (fracV q))
 hn:∀w,Calls Tryz.prog 5 #[qV n d] w (Ret w (fracV r))
 hMu:∀(W:World),RS tqC 4 W (.slice p0 l0.length m0) l0→Calls Tryz.prog 6 #[.slice p0 l0.length m0,.int .i64 8] W (RetP W u)
 hMz:∀(W:World),RS tqC 4 W (.slice p1 l1.length m1) l1→Calls Tryz.prog 6 #[.slice p1 l1.length m1,.int .i64 8] W (RetP W zz)
 hSz:Fn1 7 (fun v=> #[v,fracV r]) zz vv
 hAuv:Fn2 9 u vv auv
 hS1:Fn1 8 (fun v=> #[k3V a b c,fracV q,v]) auv s
 hS2:Fn1 8 (fun v=> #[k3V a b c,fracV q,v]) u su
 hS3:Fn1 8 (fun v=> #[k3V a b c,fracV q,v]) zz sz'
 hSs:Fn1 7 (fun v=> #[v,fracV r]) sz' ssz
 hAt:Fn2 9 su ssz t
 hF1:∀(v:Value) (W:World),PL W 0 v auv→Calls Tryz.prog 10 #[k3V a b c,v] W (fun e w'=> ∃v1 v2,e= .returned (.agg #[v1,v2])∧PL w' W.heap.size v1 g0∧PL w' W.heap.size v2 g1∧Gr W.heap.size W w')
 hF2:∀(v:Value) (W:World),PL W 0 v u→Calls Tryz.prog 10 #[k3V a b c,v] W (fun e w'=> ∃v1 v2,e= .returned (.agg #[v1,v2])∧PL w' W.heap.size v1 h0∧PL w' W.heap.size v2 h1∧Gr W.heap.size W w')
 hF3:∀(v:Value) (W:World),PL W 0 v vv→Calls Tryz.prog 10 #[k3V a b c,v] W (fun e w'=> ∃v1 v2,e= .returned (.agg #[v1,v2])∧PL w' W.heap.size v1 i0∧PL w' W.heap.size v2 i1∧Gr W.heap.size W w')
 hCo:∀w,Calls Tryz.prog 11 #[fracV r] w (RetP w cn)
 hF4:∀(v:Value) (W:World),PL W 0 v cn→Calls Tryz.prog 10 #[k3V a b c,v] W (fun e w'=> ∃v1 v2,e= .returned (.agg #[v1,v2])∧PL w' W.heap.size v1 f0∧PL w' W.heap.size v2 f1∧Gr W.heap.size W w')
 hX:∀w,Calls Tryz.prog 12 #[] w (RetP w lx)
 hY:∀w,Calls Tryz.prog 13 #[] w (RetP w ly)
 hSx:Fn1 7 (fun v=> #[v,fracV r]) lx sx
 hSy:Fn1 7 (fun v=> #[v,fracV q]) ly sy
 hAp:Fn2 9 sx sy pl
 hS4:Fn1 8 (fun v=> #[k3V a b c,.agg #[.int .u64 0,.string ⟨#[]⟩,.bool false,.int .u64 0,.string ⟨#[]⟩],v]) pl pp
 hE1:∀(v u:Value) (W:World),PL W 0 v s→PL W 0 u t→Calls Tryz.prog 14 #[v,u] W (Ret W (.bool true))
 hA3:Fn2 9 h0 i0 e0
 hE2:∀(v u:Value) (W:World),PL W 0 v g0→PL W 0 u e0→Calls Tryz.prog 14 #[v,u] W (Ret W (.bool true))
 hA4:Fn2 9 h1 i1 e1
 hE3:∀(v u:Value) (W:World),PL W 0 v g1→PL W 0 u e1→Calls Tryz.prog 14 #[v,u] W (Ret W (.bool true))
 hD1:∀(v:Value) (W:World),PL W 0 v f0→Calls Tryz.prog 15 #[v] W (Ret W (.int .i64 (-1)))
 hD2:∀(v:Value) (W:World),PL W 0 v f1→Calls Tryz.prog 15 #[v] W (Ret W (.int .i64 (-1)))
 hD3:∀(v:Value) (W:World),PL W 0 v pp→Calls Tryz.prog 15 #[v] W (Ret W (.int .i64 (-1)))
 hL:∀w,Calls Tryz.prog 4 #[] w (Ret w (.bool true))
def tailAt (n:Nat):Code→Code
 | .seq x y=>match x with
  | .region m _ _=>if m=n then .seq x y else tailAt n y
  | _=>tailAt n y
 | c=>c
theorem wp_tail {P:Program} {s y:Code} {Q:Exit→Act→World→Prop} {a:Act} {w:World} (first:∀K:Act→World→Prop,(∀a w,Met (y.wp P Q) a w→K a w)→s.wp P (Exit.then K Q) a w):(Code.seq s y).wp P Q a w:=wp_seq (first _ (fun _ _ h=>h))
theorem wp_tail' {P:Program} {s y:Code} {Q:Exit→Act→World→Prop} {K:Act→World→Prop} {a:Act} {w:World} (hK:∀a w,y.wp P Q a w→K a w) (first:∀K:Act→World→Prop,(∀a w,Met (y.wp P Q) a w→K a w)→s.wp P (Exit.then K Q) a w):s.wp P (Exit.then K Q) a w:=first K (fun a w h=>hK a w h)
noncomputable abbrev tl (n:Nat):Code:=tailAt n ((Tryz.f3).body.getD .skip)
variable {n0 n1 n2 n3 n:Int} {d0 d1 d2 d3 d:Nat} {l0 l1:List TQ} {p0 p1:Option Addr} {m0 m1:Nat} {a b c q r:Rat} {u zz vv auv s su sz' ssz t g0 g1 h0 h1 i0 i1 cn f0 f1 lx ly sx sy pl pp e0 e1:List T}
variable {v0 v1 v2 v3 v4 v5 v6 v7 v8 v9 v10 v11 v12 v13 v14 v15 v16 v17 v18 v19 v20 v21 v22 v23 v24 v25 v26 v27 v28 v29 v30 v31 v32 v33 v34 v35 v36 v37 v38 v39 v40 v41 v42 v43 v44 v45 v46 v47 v48 v49 v50 v51 v52 v53 v54 v55 v56 v57 v58 v59 v60 v61 v62 v63 v64 v65 v66 v67 v68 v69 v70 v71 v72 v73 v74 v75 v76 v77 v78 v79 v80 v81 v82 v83 v84 v85 v86 v87 v88 v89 v90 v91 v92 v93 v94 v95 v96 v97 v98 v99 v100 v101 v102 v103 v104 v105 v106 v107 v108 v109 v110 v111 v112 v113 v114 v115 v116 v117 v118 v119 v120 v121 v122 v123 v124 v125 v126 v127 v128 v129 v130 v131 v132 v133 v134 v135 v136 v137 v138 v139 v140:Value}
set_option maxRecDepth 20000 in
set_option maxHeartbeats 8000000 in
theorem t14 (H:Hyp n0 n1 n2 n3 n d0 d1 d2 d3 d l0 l1 p0 p1 m0 m1 a b c q r u zz vv auv s su sz' ssz t g0 g1 h0 h1 i0 i1 cn f0 f1 lx ly sx sy pl pp e0 e1) (w wq12 wq13:World) {kb zb nb:Nat} {g:Nat} {cb:Nat} {u9:Value} {u10:Value} {u11:Value} {u12:Value} {gd:Nat} {gg1 gg3:Option Addr} {gg2 gg4:Nat} {hd:Nat} {hh1 hh3:Option Addr} {hh2 hh4:Nat} {id:Nat} {ii1 ii3:Option Addr} {ii2 ii4:Nat} {fd:Nat} {ff1 ff3:Option Addr} {ff2 ff4:Nat} {u17:Value}
  (HZ:Hid (VB wq12 zb [.slice p0 l0.length m0,.slice p1 l1.length m1])) (hlZ:zb<wq12.heap.size) (HN:Hid (VB wq12 nb [.int .i64 n,.int .u32 d])) (hlN:nb<wq12.heap.size) (HA:Hid (VB wq12 g [.int .u64 (lowN (sz a.num)),.string (bigS (sz a.num)),.bool (ng a.num),.int .u64 (lowN (fm a)),.string (bigS (fm a)),.int .u64 (lowN (sz b.num)),.string (bigS (sz b.num)),.bool (ng b.num),.int .u64 (lowN (fm b)),.string (bigS (fm b)),.int .u64 (lowN (sz c.num)),.string (bigS (sz c.num)),.bool (ng c.num),.int .u64 (lowN (fm c)),.string (bigS (fm c))])) (hlA:g<wq12.heap.size) (HC:Hid (VB wq12 cb [.int .u64 (lowN (sz q.num)),.string (bigS (sz q.num)),.bool (ng q.num),.int .u64 (lowN (fm q)),.string (bigS (fm q))])) (hlC:cb<wq12.heap.size) (HD:Hid (VB wq12 gd [.slice gg1 g0.length gg2,.slice gg3 g1.length gg4])) (hlD:gd<wq12.heap.size) (HE:Hid (VB wq12 hd [.slice hh1 h0.length hh2,.slice hh3 h1.length hh4])) (hlE:hd<wq12.heap.size) (HF:Hid (VB wq12 id [.slice ii1 i0.length ii2,.slice ii3 i1.length ii4])) (hlF:id<wq12.heap.size) (HG:Hid (VB wq12 fd [.slice ff1 f0.length ff2,.slice ff3 f1.length ff4])) (hlG:fd<wq12.heap.size) (HPu:Hid (PL wq12 0 u9 u)) (HPv:Hid (PL wq12 0 u10 vv)) (HPs:Hid (PL wq12 0 u11 s)) (HPt:Hid (PL wq12 0 u12 t)) (HPg0:Hid (PL wq12 0 (.slice gg1 g0.length gg2) g0)) (HPg1:Hid (PL wq12 0 (.slice gg3 g1.length gg4) g1)) (HPh0:Hid (PL wq12 0 (.slice hh1 h0.length hh2) h0)) (HPh1:Hid (PL wq12 0 (.slice hh3 h1.length hh4) h1)) (HPi0:Hid (PL wq12 0 (.slice ii1 i0.length ii2) i0)) (HPi1:Hid (PL wq12 0 (.slice ii3 i1.length ii4) i1)) (HPf0:Hid (PL wq12 0 (.slice ff1 f0.length ff2) f0)) (HPf1:Hid (PL wq12 0 (.slice ff3 f1.length ff4) f1)) (HW:Hid (Gr w.heap.size w wq12)) (hww:w.heap.size≤wq12.heap.size) (r0:Hid (RS tqC 4 w (.slice p0 l0.length m0) l0)) (r1:Hid (RS tqC 4 w (.slice p1 l1.length m1) l1))
  (hPn:PL wq13 0 u17 pp) (hgr:Gr wq12.heap.size wq12 wq13):
  Code.wp Tryz.prog (tl 14) (bodyPost Tryz.prog Tryz.f3 (Ret w (.bool true))) {tmps:= #[v0,v1,v2,.pointer (some ⟨kb,0,none⟩),.pointer (some ⟨zb,0,none⟩),.pointer (some ⟨nb,0,none⟩),v6,.pointer (some ⟨g,0,none⟩),.pointer (some ⟨cb,0,none⟩),u9,u10,u11,u12,.pointer (some ⟨gd,0,none⟩),.pointer (some ⟨hd,0,none⟩),.pointer (some ⟨id,0,none⟩),.pointer (some ⟨fd,0,none⟩),u17,v18,v19,v20,v21,v22,v23,v24,v25,v26,v27,v28,v29,v30,v31,v32,v33,v34,v35,v36,v37,v38,v39,v40,v41,v42,v43,v44,v45,v46,v47,v48,v49,v50,v51,v52,v53,v54,v55,v56,v57,v58,v59,v60,v61,v62,v63,v64,v65,v66,v67,v68,v69,v70,v71,v72,v73,v74,v75,v76,v77,v78,v79,v80,v81,v82,v83,v84,v85,v86,v87,v88,v89,v90,v91,v92,v93,v94,v95,v96,v97,v98,v99,v100,v101,v102,v103,v104,v105,v106,v107,v108,v109,v110,v111,v112,v113,v114,v115,v116,v117,v118,v119,v120,v121,v122,v123,v124,v125,v126,v127,v128,v129,v130,v131,v132,v133,v134,v135,v136,v137,v138,v139,v140],defers:= []} wq13:=by
 have hsr:=hgr.size
 replace HZ:=Lib.hid (HZ.out.gr hgr hlZ)
 replace hlZ:zb<wq13.heap.size:=by omega
 replace HN:=Lib.hid (HN.out.gr hgr hlN)
 replace hlN:nb<wq13.heap.size:=by omega
 replace HA:=Lib.hid (HA.out.gr hgr hlA)
 replace hlA:g<wq13.heap.size:=by omega
 replace HC:=Lib.hid (HC.out.gr hgr hlC)
 replace hlC:cb<wq13.heap.size:=by omega
 replace HD:=Lib.hid (HD.out.gr hgr hlD)
 replace hlD:gd<wq13.heap.size:=by omega
 replace HE:=Lib.hid (HE.out.gr hgr hlE)
 replace hlE:hd<wq13.heap.size:=by omega
 replace HF:=Lib.hid (HF.out.gr hgr hlF)
 replace hlF:id<wq13.heap.size:=by omega
 replace HG:=Lib.hid (HG.out.gr hgr hlG)
 replace hlG:fd<wq13.heap.size:=by omega
 replace HPu:=Lib.hid (HPu.out.gr hgr)
 replace HPv:=Lib.hid (HPv.out.gr hgr)
 replace HPs:=Lib.hid (HPs.out.gr hgr)
 replace HPt:=Lib.hid (HPt.out.gr hgr)
 replace HPg0:=Lib.hid (HPg0.out.gr hgr)
 replace HPg1:=Lib.hid (HPg1.out.gr hgr)
 replace HPh0:=Lib.hid (HPh0.out.gr hgr)
 replace HPh1:=Lib.hid (HPh1.out.gr hgr)
 replace HPi0:=Lib.hid (HPi0.out.gr hgr)
 replace HPi1:=Lib.hid (HPi1.out.gr hgr)
 replace HPf0:=Lib.hid (HPf0.out.gr hgr)
 replace HPf1:=Lib.hid (HPf1.out.gr hgr)
 replace HW:=Lib.hid (HW.out.trans (hgr.mono hww))
 replace hww:w.heap.size≤wq13.heap.size:=by omega
 have HPp:=Lib.hid hPn
 clear hgr hsr
 clear hPn
 refine wp_seq_k (fun K hK=>?_)
 have g_0:=HD.out.c 0 _ rfl
 have g_1:=HD.out.c 1 _ rfl
 have h_0:=HE.out.c 0 _ rfl
 have h_1:=HE.out.c 1 _ rfl
 have i_0:=HF.out.c 0 _ rfl
 have i_1:=HF.out.c 1 _ rfl
 have f_0:=HG.out.c 0 _ rfl
 have f_1:=HG.out.c 1 _ rfl
 refine wp_region_held_drew (S:=(fun w'=>w'.cell? ⟨gd,0,none⟩=some (.slice gg1 g0.length gg2)∧w'.cell? ⟨gd,1,none⟩=some (.slice gg3 g1.length gg4)∧w'.cell? ⟨hd,0,none⟩=some (.slice hh1 h0.length hh2)∧w'.cell? ⟨hd,1,none⟩=some (.slice hh3 h1.length hh4)∧w'.cell? ⟨id,0,none⟩=some (.slice ii1 i0.length ii2)∧w'.cell? ⟨id,1,none⟩=some (.slice ii3 i1.length ii4)∧w'.cell? ⟨fd,0,none⟩=some (.slice ff1 f0.length ff2)∧w'.cell? ⟨fd,1,none⟩=some (.slice ff3 f1.length ff4))) (by kernel_rfl) ?_ (fun hHeld=>?_)
 ·simp [go_sem, *]
 refine tk 0 (some 98) (u11) ?_
 try simp only [pS]
 refine tk 1 (some 99) (u12) ?_
 try simp only [pS]
 refine rd 2 (fun K hK=>?_)
 go_simp
 (refine(H.hE1 u11 u12 _ (by exact HPs.out.gr (by exact .z)) (by exact HPt.out.gr (by exact .z))).mono ?_;rintro e w50 ⟨rfl,hg50⟩;(try (with_reducible replace hg50:=Gr.of_drew hg50));have hsz50:=hg50.size;(try simp at hsz50);have hy50_0:gd<w50.heap.size:=(by omega);have hy50_1:hd<w50.heap.size:=(by omega);have hy50_2:id<w50.heap.size:=(by omega);have hy50_3:fd<w50.heap.size:=(by omega);obtain ⟨hc50,hf50⟩:=hg50.cells;have HG50:=Lib.hid hg50;clear hg50)
 (try dsimp only)
 refine hK.out _ _ ?_ (fun hQ1=>?_)
 ·(first|exact trivial|((try dsimp only);simp [go_sem, *]))
 clear hK K hHeld
 try simp only [pS]
 refine tk 3 (some 101) (.bool true) ?_
 try simp only [pS]
 refine tk 4 (some 102) (.pointer (some ⟨gd,0,none⟩)) ?_
 try simp only [pS]
 refine tk 5 (some 103) (.slice gg1 g0.length gg2) ?_
 try simp only [pS]
 refine tk 6 (some 104) (.pointer (some ⟨hd,0,none⟩)) ?_
 try simp only [pS]
 refine tk 7 (some 105) (.slice hh1 h0.length hh2) ?_
 try simp only [pS]
 refine tk 8 (some 106) (.pointer (some ⟨id,0,none⟩)) ?_
 try simp only [pS]
 refine tk 9 (some 107) (.slice ii1 i0.length ii2) ?_
 try simp only [pS]
 refine rd 10 (fun K hK=>?_)
 go_simp
 (refine(H.hA3 _ _ _ (by exact HPh0.out.gr (by exact .c HG50 .z)) (by exact HPi0.out.gr (by exact .c HG50 .z))).mono ?_;rintro e w51 ⟨v51,rfl,hS51,hg51⟩;(try (with_reducible replace hg51:=Gr.of_drew hg51));have hsz51:=hg51.size;(try simp at hsz51);have hy51_0:gd<w51.heap.size:=(by omega);have hy51_1:hd<w51.heap.size:=(by omega);have hy51_2:id<w51.heap.size:=(by omega);have hy51_3:fd<w51.heap.size:=(by omega);obtain ⟨hc51,hf51⟩:=hg51.cells;have HG51:=Lib.hid hg51;clear hg51;have HS51:=Lib.hid hS51;clear hS51)
 (try dsimp only)
 refine hK.out _ _ ?_ (fun hQ2=>?_)
 ·(first|exact trivial|((try dsimp only);simp [go_sem, *]))
 clear hK K hQ1
 try simp only [pS]
 refine rd 11 (fun K hK=>?_)
 go_simp
 (refine(H.hE2 _ v51 _ (by exact HPg0.out.gr (by exact .c HG51 (.c HG50 .z))) (by exact(HS51.out.mono (Nat.zero_le _)).gr (by exact .z))).mono ?_;rintro e w52 ⟨rfl,hg52⟩;(try (with_reducible replace hg52:=Gr.of_drew hg52));have hsz52:=hg52.size;(try simp at hsz52);have hy52_0:gd<w52.heap.size:=(by omega);have hy52_1:hd<w52.heap.size:=(by omega);have hy52_2:id<w52.heap.size:=(by omega);have hy52_3:fd<w52.heap.size:=(by omega);obtain ⟨hc52,hf52⟩:=hg52.cells;have HG52:=Lib.hid hg52;clear hg52)
 (try dsimp only)
 refine hK.out _ _ ?_ (fun hQ3=>?_)
 ·(first|exact trivial|((try dsimp only);simp [go_sem, *]))
 clear hK K hQ2
 try simp only [pS]
 refine tk 12 (some 110) (.bool true) ?_
 try simp only [pS]
 refine tk 13 (some 111) (.bool true) ?_
 try simp only [pS]
 refine tk 14 (some 112) (.pointer (some ⟨gd,1,none⟩)) ?_
 try simp only [pS]
 refine tk 15 (some 113) (.slice gg3 g1.length gg4) ?_
 try simp only [pS]
 refine tk 16 (some 114) (.pointer (some ⟨hd,1,none⟩)) ?_
 try simp only [pS]
 refine tk 17 (some 115) (.slice hh3 h1.length hh4) ?_
 try simp only [pS]
 refine tk 18 (some 116) (.pointer (some ⟨id,1,none⟩)) ?_
 try simp only [pS]
 refine tk 19 (some 117) (.slice ii3 i1.length ii4) ?_
 try simp only [pS]
 refine rd 20 (fun K hK=>?_)
 go_simp
 (refine(H.hA4 _ _ _ (by exact HPh1.out.gr (by exact .c HG52 (.c HG51 (.c HG50 .z)))) (by exact HPi1.out.gr (by exact .c HG52 (.c HG51 (.c HG50 .z))))).mono ?_;rintro e w53 ⟨v53,rfl,hS53,hg53⟩;(try (with_reducible replace hg53:=Gr.of_drew hg53));have hsz53:=hg53.size;(try simp at hsz53);have hy53_0:gd<w53.heap.size:=(by omega);have hy53_1:hd<w53.heap.size:=(by omega);have hy53_2:id<w53.heap.size:=(by omega);have hy53_3:fd<w53.heap.size:=(by omega);obtain ⟨hc53,hf53⟩:=hg53.cells;have HG53:=Lib.hid hg53;clear hg53;have HS53:=Lib.hid hS53;clear hS53)
 (try dsimp only)
 refine hK.out _ _ ?_ (fun hQ4=>?_)
 ·(first|exact trivial|((try dsimp only);simp [go_sem, *]))
 clear hK K hQ3
 try simp only [pS]
 refine rd 21 (fun K hK=>?_)
 go_simp
 (refine(H.hE3 _ v53 _ (by exact HPg1.out.gr (by exact .c HG53 (.c HG52 (.c HG51 (.c HG50 .z))))) (by exact(HS53.out.mono (Nat.zero_le _)).gr (by exact .z))).mono ?_;rintro e w54 ⟨rfl,hg54⟩;(try (with_reducible replace hg54:=Gr.of_drew hg54));have hsz54:=hg54.size;(try simp at hsz54);have hy54_0:gd<w54.heap.size:=(by omega);have hy54_1:hd<w54.heap.size:=(by omega);have hy54_2:id<w54.heap.size:=(by omega);have hy54_3:fd<w54.heap.size:=(by omega);obtain ⟨hc54,hf54⟩:=hg54.cells;have HG54:=Lib.hid hg54;clear hg54)
 (try dsimp only)
 refine hK.out _ _ ?_ (fun hQ5=>?_)
 ·(first|exact trivial|((try dsimp only);simp [go_sem, *]))
 clear hK K hQ4
 try simp only [pS]
 refine tk 22 (some 120) (.bool true) ?_
 try simp only [pS]
 refine tk 23 (some 121) (.bool true) ?_
 try simp only [pS]
 refine tk 24 (some 122) (.pointer (some ⟨fd,0,none⟩)) ?_
 try simp only [pS]
 refine tk 25 (some 123) (.slice ff1 f0.length ff2) ?_
 try simp only [pS]
 refine rd 26 (fun K hK=>?_)
 go_simp
 (refine(H.hD1 _ _ (by exact HPf0.out.gr (by exact .c HG54 (.c HG53 (.c HG52 (.c HG51 (.c HG50 .z))))))).mono ?_;rintro e w55 ⟨rfl,hg55⟩;(try (with_reducible replace hg55:=Gr.of_drew hg55));have hsz55:=hg55.size;(try simp at hsz55);have hy55_0:gd<w55.heap.size:=(by omega);have hy55_1:hd<w55.heap.size:=(by omega);have hy55_2:id<w55.heap.size:=(by omega);have hy55_3:fd<w55.heap.size:=(by omega);obtain ⟨hc55,hf55⟩:=hg55.cells;have HG55:=Lib.hid hg55;clear hg55)
 (try dsimp only)
 refine hK.out _ _ ?_ (fun hQ6=>?_)
 ·(first|exact trivial|((try dsimp only);simp [go_sem, *]))
 clear hK K hQ5
 try simp only [pS]
 refine tk 27 (some 125) (.bool true) ?_
 try simp only [pS]
 refine tk 28 (some 126) (.bool true) ?_
 try simp only [pS]
 refine tk 29 (some 127) (.bool true) ?_
 try simp only [pS]
 refine tk 30 (some 128) (.pointer (some ⟨fd,1,none⟩)) ?_
 try simp only [pS]
 refine tk 31 (some 129) (.slice ff3 f1.length ff4) ?_
 try simp only [pS]
 refine rd 32 (fun K hK=>?_)
 go_simp
 (refine(H.hD2 _ _ (by exact HPf1.out.gr (by exact .c HG55 (.c HG54 (.c HG53 (.c HG52 (.c HG51 (.c HG50 .z)))))))).mono ?_;rintro e w56 ⟨rfl,hg56⟩;(try (with_reducible replace hg56:=Gr.of_drew hg56));have hsz56:=hg56.size;(try simp at hsz56);have hy56_0:gd<w56.heap.size:=(by omega);have hy56_1:hd<w56.heap.size:=(by omega);have hy56_2:id<w56.heap.size:=(by omega);have hy56_3:fd<w56.heap.size:=(by omega);obtain ⟨hc56,hf56⟩:=hg56.cells;have HG56:=Lib.hid hg56;clear hg56)
 (try dsimp only)
 refine hK.out _ _ ?_ (fun hQ7=>?_)
 ·(first|exact trivial|((try dsimp only);simp [go_sem, *]))
 clear hK K hQ6
 try simp only [pS]
 refine tk 33 (some 131) (.bool true) ?_
 try simp only [pS]
 refine tk 34 (some 132) (.bool true) ?_
 try simp only [pS]
 refine tk 35 (some 133) (.bool true) ?_
 try simp only [pS]
 refine tk 36 (some 134) (u17) ?_
 try simp only [pS]
 refine rd 37 (fun K hK=>?_)
 go_simp
 (refine(H.hD3 u17 _ (by exact HPp.out.gr (by exact .c HG56 (.c HG55 (.c HG54 (.c HG53 (.c HG52 (.c HG51 (.c HG50 .z))))))))).mono ?_;rintro e w57 ⟨rfl,hg57⟩;(try (with_reducible replace hg57:=Gr.of_drew hg57));have hsz57:=hg57.size;(try simp at hsz57);have hy57_0:gd<w57.heap.size:=(by omega);have hy57_1:hd<w57.heap.size:=(by omega);have hy57_2:id<w57.heap.size:=(by omega);have hy57_3:fd<w57.heap.size:=(by omega);obtain ⟨hc57,hf57⟩:=hg57.cells;have HG57:=Lib.hid hg57;clear hg57)
 (try dsimp only)
 refine hK.out _ _ ?_ (fun hQ8=>?_)
 ·(first|exact trivial|((try dsimp only);simp [go_sem, *]))
 clear hK K hQ7
 try simp only [pS]
 refine tk 38 (some 136) (.bool true) ?_
 try simp only [pS]
 refine tk 39 (some 137) (.bool true) ?_
 try simp only [pS]
 refine tk 40 (some 138) (.bool true) ?_
 try simp only [pS]
 refine rd 41 (fun K hK=>?_)
 go_simp
 (refine(H.hL _).mono ?_;rintro e w58 ⟨rfl,hg58⟩;(try (with_reducible replace hg58:=Gr.of_drew hg58));have hsz58:=hg58.size;(try simp at hsz58);have hy58_0:gd<w58.heap.size:=(by omega);have hy58_1:hd<w58.heap.size:=(by omega);have hy58_2:id<w58.heap.size:=(by omega);have hy58_3:fd<w58.heap.size:=(by omega);obtain ⟨hc58,hf58⟩:=hg58.cells;have HG58:=Lib.hid hg58;clear hg58)
 (try dsimp only)
 refine hK.out _ _ ?_ (fun hQ9=>?_)
 ·(first|exact trivial|((try dsimp only);simp [go_sem, *]))
 clear hK K hQ8
 try simp only [pS]
 refine tk 42 (some 140) (.bool true) ?_
 try simp only [pS]
 refine tk 43 (some 6) (.bool true) ?_
 try simp only [pS]
 refine wpAnyH_done (by kernel_rfl) ?_ _
 go_wp2
 go_ret
 exact⟨rfl,by exact .c HG58 (.c HG57 (.c HG56 (.c HG55 (.c HG54 (.c HG53 (.c HG52 (.c HG51 (.c HG50 (.c HW .z)))))))))⟩
set_option maxRecDepth 20000 in
set_option maxHeartbeats 8000000 in
theorem t13 (H:Hyp n0 n1 n2 n3 n d0 d1 d2 d3 d l0 l1 p0 p1 m0 m1 a b c q r u zz vv auv s su sz' ssz t g0 g1 h0 h1 i0 i1 cn f0 f1 lx ly sx sy pl pp e0 e1) (w wq11 wq12:World) {kb zb nb:Nat} {g:Nat} {cb:Nat} {u9:Value} {u10:Value} {u11:Value} {u12:Value} {gd:Nat} {gg1 gg3:Option Addr} {gg2 gg4:Nat} {hd:Nat} {hh1 hh3:Option Addr} {hh2 hh4:Nat} {id:Nat} {ii1 ii3:Option Addr} {ii2 ii4:Nat} {fd:Nat}
  (HZ:Hid (VB wq11 zb [.slice p0 l0.length m0,.slice p1 l1.length m1])) (hlZ:zb<wq11.heap.size) (HN:Hid (VB wq11 nb [.int .i64 n,.int .u32 d])) (hlN:nb<wq11.heap.size) (HA:Hid (VB wq11 g [.int .u64 (lowN (sz a.num)),.string (bigS (sz a.num)),.bool (ng a.num),.int .u64 (lowN (fm a)),.string (bigS (fm a)),.int .u64 (lowN (sz b.num)),.string (bigS (sz b.num)),.bool (ng b.num),.int .u64 (lowN (fm b)),.string (bigS (fm b)),.int .u64 (lowN (sz c.num)),.string (bigS (sz c.num)),.bool (ng c.num),.int .u64 (lowN (fm c)),.string (bigS (fm c))])) (hlA:g<wq11.heap.size) (HC:Hid (VB wq11 cb [.int .u64 (lowN (sz q.num)),.string (bigS (sz q.num)),.bool (ng q.num),.int .u64 (lowN (fm q)),.string (bigS (fm q))])) (hlC:cb<wq11.heap.size) (HD:Hid (VB wq11 gd [.slice gg1 g0.length gg2,.slice gg3 g1.length gg4])) (hlD:gd<wq11.heap.size) (HE:Hid (VB wq11 hd [.slice hh1 h0.length hh2,.slice hh3 h1.length hh4])) (hlE:hd<wq11.heap.size) (HF:Hid (VB wq11 id [.slice ii1 i0.length ii2,.slice ii3 i1.length ii4])) (hlF:id<wq11.heap.size) (HPu:Hid (PL wq11 0 u9 u)) (HPv:Hid (PL wq11 0 u10 vv)) (HPs:Hid (PL wq11 0 u11 s)) (HPt:Hid (PL wq11 0 u12 t)) (HPg0:Hid (PL wq11 0 (.slice gg1 g0.length gg2) g0)) (HPg1:Hid (PL wq11 0 (.slice gg3 g1.length gg4) g1)) (HPh0:Hid (PL wq11 0 (.slice hh1 h0.length hh2) h0)) (HPh1:Hid (PL wq11 0 (.slice hh3 h1.length hh4) h1)) (HPi0:Hid (PL wq11 0 (.slice ii1 i0.length ii2) i0)) (HPi1:Hid (PL wq11 0 (.slice ii3 i1.length ii4) i1)) (HW:Hid (Gr w.heap.size w wq11)) (hww:w.heap.size≤wq11.heap.size) (r0:Hid (RS tqC 4 w (.slice p0 l0.length m0) l0)) (r1:Hid (RS tqC 4 w (.slice p1 l1.length m1) l1))
  (hF:F2 wq12 fd f0 f1) (hgr:Gr wq11.heap.size wq11 wq12):
  Code.wp Tryz.prog (tl 13) (bodyPost Tryz.prog Tryz.f3 (Ret w (.bool true))) {tmps:= #[v0,v1,v2,.pointer (some ⟨kb,0,none⟩),.pointer (some ⟨zb,0,none⟩),.pointer (some ⟨nb,0,none⟩),v6,.pointer (some ⟨g,0,none⟩),.pointer (some ⟨cb,0,none⟩),u9,u10,u11,u12,.pointer (some ⟨gd,0,none⟩),.pointer (some ⟨hd,0,none⟩),.pointer (some ⟨id,0,none⟩),.pointer (some ⟨fd,0,none⟩),v17,v18,v19,v20,v21,v22,v23,v24,v25,v26,v27,v28,v29,v30,v31,v32,v33,v34,v35,v36,v37,v38,v39,v40,v41,v42,v43,v44,v45,v46,v47,v48,v49,v50,v51,v52,v53,v54,v55,v56,v57,v58,v59,v60,v61,v62,v63,v64,v65,v66,v67,v68,v69,v70,v71,v72,v73,v74,v75,v76,v77,v78,v79,v80,v81,v82,v83,v84,v85,v86,v87,v88,v89,v90,v91,v92,v93,v94,v95,v96,v97,v98,v99,v100,v101,v102,v103,v104,v105,v106,v107,v108,v109,v110,v111,v112,v113,v114,v115,v116,v117,v118,v119,v120,v121,v122,v123,v124,v125,v126,v127,v128,v129,v130,v131,v132,v133,v134,v135,v136,v137,v138,v139,v140],defers:= []} wq12:=by
 obtain ⟨ff1,ff2,ff3,ff4,hV,hx,hy⟩:=hF.at
 clear hF
 have hsr:=hgr.size
 replace HZ:=Lib.hid (HZ.out.gr hgr hlZ)
 replace hlZ:zb<wq12.heap.size:=by omega
 replace HN:=Lib.hid (HN.out.gr hgr hlN)
 replace hlN:nb<wq12.heap.size:=by omega
 replace HA:=Lib.hid (HA.out.gr hgr hlA)
 replace hlA:g<wq12.heap.size:=by omega
 replace HC:=Lib.hid (HC.out.gr hgr hlC)
 replace hlC:cb<wq12.heap.size:=by omega
 replace HD:=Lib.hid (HD.out.gr hgr hlD)
 replace hlD:gd<wq12.heap.size:=by omega
 replace HE:=Lib.hid (HE.out.gr hgr hlE)
 replace hlE:hd<wq12.heap.size:=by omega
 replace HF:=Lib.hid (HF.out.gr hgr hlF)
 replace hlF:id<wq12.heap.size:=by omega
 replace HPu:=Lib.hid (HPu.out.gr hgr)
 replace HPv:=Lib.hid (HPv.out.gr hgr)
 replace HPs:=Lib.hid (HPs.out.gr hgr)
 replace HPt:=Lib.hid (HPt.out.gr hgr)
 replace HPg0:=Lib.hid (HPg0.out.gr hgr)
 replace HPg1:=Lib.hid (HPg1.out.gr hgr)
 replace HPh0:=Lib.hid (HPh0.out.gr hgr)
 replace HPh1:=Lib.hid (HPh1.out.gr hgr)
 replace HPi0:=Lib.hid (HPi0.out.gr hgr)
 replace HPi1:=Lib.hid (HPi1.out.gr hgr)
 replace HW:=Lib.hid (HW.out.trans (hgr.mono hww))
 replace hww:w.heap.size≤wq12.heap.size:=by omega
 have HG:=Lib.hid hV
 have hlG:=HG.out.lt
 have HPf0:=Lib.hid hx
 have HPf1:=Lib.hid hy
 clear hgr hsr
 clear hV hx hy
 refine wp_tail (fun K' hK'=>?_)
 obtain ⟨a_0,a_1,a_2,a_3,a_4,a_5,a_6,a_7,a_8,a_9,a_10,a_11,a_12,a_13,a_14⟩:=HA.out.all15
 have q_0:=HC.out.c 0 _ rfl
 have q_1:=HC.out.c 1 _ rfl
 have q_2:=HC.out.c 2 _ rfl
 have q_3:=HC.out.c 3 _ rfl
 have q_4:=HC.out.c 4 _ rfl
 have n_0:=HN.out.c 0 _ rfl
 have n_1:=HN.out.c 1 _ rfl
 refine wp_region_held_drew (S:=(fun w'=>w'.cell? ⟨g,0,none⟩=some (.int .u64 (lowN (sz a.num)))∧w'.cell? ⟨g,1,none⟩=some (.string (bigS (sz a.num)))∧w'.cell? ⟨g,2,none⟩=some (.bool (ng a.num))∧w'.cell? ⟨g,3,none⟩=some (.int .u64 (lowN (fm a)))∧w'.cell? ⟨g,4,none⟩=some (.string (bigS (fm a)))∧w'.cell? ⟨g,5,none⟩=some (.int .u64 (lowN (sz b.num)))∧w'.cell? ⟨g,6,none⟩=some (.string (bigS (sz b.num)))∧w'.cell? ⟨g,7,none⟩=some (.bool (ng b.num))∧w'.cell? ⟨g,8,none⟩=some (.int .u64 (lowN (fm b)))∧w'.cell? ⟨g,9,none⟩=some (.string (bigS (fm b)))∧w'.cell? ⟨g,10,none⟩=some (.int .u64 (lowN (sz c.num)))∧w'.cell? ⟨g,11,none⟩=some (.string (bigS (sz c.num)))∧w'.cell? ⟨g,12,none⟩=some (.bool (ng c.num))∧w'.cell? ⟨g,13,none⟩=some (.int .u64 (lowN (fm c)))∧w'.cell? ⟨g,14,none⟩=some (.string (bigS (fm c)))∧w'.cell? ⟨cb,0,none⟩=some (.int .u64 (lowN (sz q.num)))∧w'.cell? ⟨cb,1,none⟩=some (.string (bigS (sz q.num)))∧w'.cell? ⟨cb,2,none⟩=some (.bool (ng q.num))∧w'.cell? ⟨cb,3,none⟩=some (.int .u64 (lowN (fm q)))∧w'.cell? ⟨cb,4,none⟩=some (.string (bigS (fm q)))∧w'.cell? ⟨nb,0,none⟩=some (.int .i64 n)∧w'.cell? ⟨nb,1,none⟩=some (.int .u32 d))) (by kernel_rfl) ?_ (fun hHeld=>?_)
 ·simp [go_sem, *]
 refine tk 0 (some 87) (k3V a b c) ?_
 try simp only [pS]
 refine tk 1 (some 88) (.agg #[.int .u64 0,.string ⟨#[]⟩,.bool false,.int .u64 0,.string ⟨#[]⟩]) ?_
 try simp only [pS]
 refine tk 3 (some 90) (qV n d) ?_
 try simp only [pS]
 refine tk 7 (some 94) (fracV q) ?_
 try simp only [pS]
 refine rd 2 (fun K hK=>?_)
 go_simp
 (refine(H.hX _).mono ?_;rintro e w35 ⟨v35,rfl,hS35,hg35⟩;(try (with_reducible replace hg35:=Gr.of_drew hg35));have hsz35:=hg35.size;(try simp at hsz35);have hy35_0:g<w35.heap.size:=(by omega);have hy35_1:cb<w35.heap.size:=(by omega);have hy35_2:nb<w35.heap.size:=(by omega);obtain ⟨hc35,hf35⟩:=hg35.cells;have HG35:=Lib.hid hg35;clear hg35;have HS35:=Lib.hid hS35;clear hS35)
 (try dsimp only)
 refine hK.out _ _ ?_ (fun hQ1=>?_)
 ·(first|exact trivial|((try dsimp only);simp [go_sem, *]))
 clear hK K hHeld
 try simp only [pS]
 refine rd 4 (fun K hK=>?_)
 go_simp
 (refine(H.hn _).mono ?_;rintro e w36 ⟨rfl,hg36⟩;(try (with_reducible replace hg36:=Gr.of_drew hg36));have hsz36:=hg36.size;(try simp at hsz36);have hy36_0:g<w36.heap.size:=(by omega);have hy36_1:cb<w36.heap.size:=(by omega);have hy36_2:nb<w36.heap.size:=(by omega);obtain ⟨hc36,hf36⟩:=hg36.cells;have HG36:=Lib.hid hg36;clear hg36)
 (try dsimp only)
 refine hK.out _ _ ?_ (fun hQ2=>?_)
 ·(first|exact trivial|((try dsimp only);simp [go_sem, *]))
 clear hK K hQ1
 try simp only [pS]
 refine rd 5 (fun K hK=>?_)
 go_simp
 (refine(H.hSx v35 _ (by exact(HS35.out.mono (Nat.zero_le _)).gr (by exact .c HG36 .z))).mono ?_;rintro e w37 ⟨v37,rfl,hS37,hg37⟩;(try (with_reducible replace hg37:=Gr.of_drew hg37));have hsz37:=hg37.size;(try simp at hsz37);have hy37_0:g<w37.heap.size:=(by omega);have hy37_1:cb<w37.heap.size:=(by omega);have hy37_2:nb<w37.heap.size:=(by omega);obtain ⟨hc37,hf37⟩:=hg37.cells;have HG37:=Lib.hid hg37;clear hg37;have HS37:=Lib.hid hS37;clear hS37)
 (try dsimp only)
 refine hK.out _ _ ?_ (fun hQ3=>?_)
 ·(first|exact trivial|((try dsimp only);simp [go_sem, *]))
 clear hK K hQ2
 try simp only [pS]
 refine rd 6 (fun K hK=>?_)
 go_simp
 (refine(H.hY _).mono ?_;rintro e w38 ⟨v38,rfl,hS38,hg38⟩;(try (with_reducible replace hg38:=Gr.of_drew hg38));have hsz38:=hg38.size;(try simp at hsz38);have hy38_0:g<w38.heap.size:=(by omega);have hy38_1:cb<w38.heap.size:=(by omega);have hy38_2:nb<w38.heap.size:=(by omega);obtain ⟨hc38,hf38⟩:=hg38.cells;have HG38:=Lib.hid hg38;clear hg38;have HS38:=Lib.hid hS38;clear hS38)
 (try dsimp only)
 refine hK.out _ _ ?_ (fun hQ4=>?_)
 ·(first|exact trivial|((try dsimp only);simp [go_sem, *]))
 clear hK K hQ3
 try simp only [pS]
 refine rd 8 (fun K hK=>?_)
 go_simp
 (refine(H.hSy v38 _ (by exact(HS38.out.mono (Nat.zero_le _)).gr (by exact .z))).mono ?_;rintro e w39 ⟨v39,rfl,hS39,hg39⟩;(try (with_reducible replace hg39:=Gr.of_drew hg39));have hsz39:=hg39.size;(try simp at hsz39);have hy39_0:g<w39.heap.size:=(by omega);have hy39_1:cb<w39.heap.size:=(by omega);have hy39_2:nb<w39.heap.size:=(by omega);obtain ⟨hc39,hf39⟩:=hg39.cells;have HG39:=Lib.hid hg39;clear hg39;have HS39:=Lib.hid hS39;clear hS39)
 (try dsimp only)
 refine hK.out _ _ ?_ (fun hQ5=>?_)
 ·(first|exact trivial|((try dsimp only);simp [go_sem, *]))
 clear hK K hQ4
 try simp only [pS]
 refine rd 9 (fun K hK=>?_)
 go_simp
 (refine(H.hAp v37 v39 _ (by exact(HS37.out.mono (Nat.zero_le _)).gr (by exact .c HG39 (.c HG38 .z))) (by exact(HS39.out.mono (Nat.zero_le _)).gr (by exact .z))).mono ?_;rintro e w40 ⟨v40,rfl,hS40,hg40⟩;(try (with_reducible replace hg40:=Gr.of_drew hg40));have hsz40:=hg40.size;(try simp at hsz40);have hy40_0:g<w40.heap.size:=(by omega);have hy40_1:cb<w40.heap.size:=(by omega);have hy40_2:nb<w40.heap.size:=(by omega);obtain ⟨hc40,hf40⟩:=hg40.cells;have HG40:=Lib.hid hg40;clear hg40;have HS40:=Lib.hid hS40;clear hS40)
 (try dsimp only)
 refine hK.out _ _ ?_ (fun hQ6=>?_)
 ·(first|exact trivial|((try dsimp only);simp [go_sem, *]))
 clear hK K hQ5
 try simp only [pS]
 refine rd 10 (fun K hK=>?_)
 go_simp
 (refine(H.hS4 v40 _ (by exact(HS40.out.mono (Nat.zero_le _)).gr (by exact .z))).mono ?_;rintro e w41 ⟨v41,rfl,hS41,hg41⟩;(try (with_reducible replace hg41:=Gr.of_drew hg41));have hsz41:=hg41.size;(try simp at hsz41);have hy41_0:g<w41.heap.size:=(by omega);have hy41_1:cb<w41.heap.size:=(by omega);have hy41_2:nb<w41.heap.size:=(by omega);obtain ⟨hc41,hf41⟩:=hg41.cells;have HG41:=Lib.hid hg41;clear hg41;have HS41:=Lib.hid hS41;clear hS41)
 (try dsimp only)
 refine hK.out _ _ ?_ (fun hQ7=>?_)
 ·(first|exact trivial|((try dsimp only);simp [go_sem, *]))
 clear hK K hQ6
 try simp only [pS]
 refine tk 11 (some 17) (v41) ?_
 try simp only [pS]
 refine wpAnyH_done (by kernel_rfl) ?_ _
 go_wp2_with fail
 refine Met.intro ?_
 exact t14 H _ _ _ HZ hlZ HN hlN HA hlA HC hlC HD hlD HE hlE HF hlF HG hlG HPu HPv HPs HPt HPg0 HPg1 HPh0 HPh1 HPi0 HPi1 HPf0 HPf1 HW hww r0 r1 (HS41.out.mono (Nat.zero_le _)) (by exact .c HG41 (.c HG40 (.c HG39 (.c HG38 (.c HG37 (.c HG36 (.c HG35 .z)))))))
set_option maxRecDepth 20000 in
set_option maxHeartbeats 8000000 in
theorem t12 (H:Hyp n0 n1 n2 n3 n d0 d1 d2 d3 d l0 l1 p0 p1 m0 m1 a b c q r u zz vv auv s su sz' ssz t g0 g1 h0 h1 i0 i1 cn f0 f1 lx ly sx sy pl pp e0 e1) (w wq10 wq11:World) {kb zb nb:Nat} {g:Nat} {cb:Nat} {u9:Value} {u10:Value} {u11:Value} {u12:Value} {gd:Nat} {gg1 gg3:Option Addr} {gg2 gg4:Nat} {hd:Nat} {hh1 hh3:Option Addr} {hh2 hh4:Nat} {id:Nat}
  (HZ:Hid (VB wq10 zb [.slice p0 l0.length m0,.slice p1 l1.length m1])) (hlZ:zb<wq10.heap.size) (HN:Hid (VB wq10 nb [.int .i64 n,.int .u32 d])) (hlN:nb<wq10.heap.size) (HA:Hid (VB wq10 g [.int .u64 (lowN (sz a.num)),.string (bigS (sz a.num)),.bool (ng a.num),.int .u64 (lowN (fm a)),.string (bigS (fm a)),.int .u64 (lowN (sz b.num)),.string (bigS (sz b.num)),.bool (ng b.num),.int .u64 (lowN (fm b)),.string (bigS (fm b)),.int .u64 (lowN (sz c.num)),.string (bigS (sz c.num)),.bool (ng c.num),.int .u64 (lowN (fm c)),.string (bigS (fm c))])) (hlA:g<wq10.heap.size) (HC:Hid (VB wq10 cb [.int .u64 (lowN (sz q.num)),.string (bigS (sz q.num)),.bool (ng q.num),.int .u64 (lowN (fm q)),.string (bigS (fm q))])) (hlC:cb<wq10.heap.size) (HD:Hid (VB wq10 gd [.slice gg1 g0.length gg2,.slice gg3 g1.length gg4])) (hlD:gd<wq10.heap.size) (HE:Hid (VB wq10 hd [.slice hh1 h0.length hh2,.slice hh3 h1.length hh4])) (hlE:hd<wq10.heap.size) (HPu:Hid (PL wq10 0 u9 u)) (HPv:Hid (PL wq10 0 u10 vv)) (HPs:Hid (PL wq10 0 u11 s)) (HPt:Hid (PL wq10 0 u12 t)) (HPg0:Hid (PL wq10 0 (.slice gg1 g0.length gg2) g0)) (HPg1:Hid (PL wq10 0 (.slice gg3 g1.length gg4) g1)) (HPh0:Hid (PL wq10 0 (.slice hh1 h0.length hh2) h0)) (HPh1:Hid (PL wq10 0 (.slice hh3 h1.length hh4) h1)) (HW:Hid (Gr w.heap.size w wq10)) (hww:w.heap.size≤wq10.heap.size) (r0:Hid (RS tqC 4 w (.slice p0 l0.length m0) l0)) (r1:Hid (RS tqC 4 w (.slice p1 l1.length m1) l1))
  (hF:F2 wq11 id i0 i1) (hgr:Gr wq10.heap.size wq10 wq11):
  Code.wp Tryz.prog (tl 12) (bodyPost Tryz.prog Tryz.f3 (Ret w (.bool true))) {tmps:= #[v0,v1,v2,.pointer (some ⟨kb,0,none⟩),.pointer (some ⟨zb,0,none⟩),.pointer (some ⟨nb,0,none⟩),v6,.pointer (some ⟨g,0,none⟩),.pointer (some ⟨cb,0,none⟩),u9,u10,u11,u12,.pointer (some ⟨gd,0,none⟩),.pointer (some ⟨hd,0,none⟩),.pointer (some ⟨id,0,none⟩),v16,v17,v18,v19,v20,v21,v22,v23,v24,v25,v26,v27,v28,v29,v30,v31,v32,v33,v34,v35,v36,v37,v38,v39,v40,v41,v42,v43,v44,v45,v46,v47,v48,v49,v50,v51,v52,v53,v54,v55,v56,v57,v58,v59,v60,v61,v62,v63,v64,v65,v66,v67,v68,v69,v70,v71,v72,v73,v74,v75,v76,v77,v78,v79,v80,v81,v82,v83,v84,v85,v86,v87,v88,v89,v90,v91,v92,v93,v94,v95,v96,v97,v98,v99,v100,v101,v102,v103,v104,v105,v106,v107,v108,v109,v110,v111,v112,v113,v114,v115,v116,v117,v118,v119,v120,v121,v122,v123,v124,v125,v126,v127,v128,v129,v130,v131,v132,v133,v134,v135,v136,v137,v138,v139,v140],defers:= []} wq11:=by
 obtain ⟨ii1,ii2,ii3,ii4,hV,hx,hy⟩:=hF.at
 clear hF
 have hsr:=hgr.size
 replace HZ:=Lib.hid (HZ.out.gr hgr hlZ)
 replace hlZ:zb<wq11.heap.size:=by omega
 replace HN:=Lib.hid (HN.out.gr hgr hlN)
 replace hlN:nb<wq11.heap.size:=by omega
 replace HA:=Lib.hid (HA.out.gr hgr hlA)
 replace hlA:g<wq11.heap.size:=by omega
 replace HC:=Lib.hid (HC.out.gr hgr hlC)
 replace hlC:cb<wq11.heap.size:=by omega
 replace HD:=Lib.hid (HD.out.gr hgr hlD)
 replace hlD:gd<wq11.heap.size:=by omega
 replace HE:=Lib.hid (HE.out.gr hgr hlE)
 replace hlE:hd<wq11.heap.size:=by omega
 replace HPu:=Lib.hid (HPu.out.gr hgr)
 replace HPv:=Lib.hid (HPv.out.gr hgr)
 replace HPs:=Lib.hid (HPs.out.gr hgr)
 replace HPt:=Lib.hid (HPt.out.gr hgr)
 replace HPg0:=Lib.hid (HPg0.out.gr hgr)
 replace HPg1:=Lib.hid (HPg1.out.gr hgr)
 replace HPh0:=Lib.hid (HPh0.out.gr hgr)
 replace HPh1:=Lib.hid (HPh1.out.gr hgr)
 replace HW:=Lib.hid (HW.out.trans (hgr.mono hww))
 replace hww:w.heap.size≤wq11.heap.size:=by omega
 have HF:=Lib.hid hV
 have hlF:=HF.out.lt
 have HPi0:=Lib.hid hx
 have HPi1:=Lib.hid hy
 clear hgr hsr
 clear hV hx hy
 refine wp_tail (fun K' hK'=>?_)
 obtain ⟨a_0,a_1,a_2,a_3,a_4,a_5,a_6,a_7,a_8,a_9,a_10,a_11,a_12,a_13,a_14⟩:=HA.out.all15
 have n_0:=HN.out.c 0 _ rfl
 have n_1:=HN.out.c 1 _ rfl
 refine wp_region_held_drew (S:=(fun w'=>w'.cell? ⟨g,0,none⟩=some (.int .u64 (lowN (sz a.num)))∧w'.cell? ⟨g,1,none⟩=some (.string (bigS (sz a.num)))∧w'.cell? ⟨g,2,none⟩=some (.bool (ng a.num))∧w'.cell? ⟨g,3,none⟩=some (.int .u64 (lowN (fm a)))∧w'.cell? ⟨g,4,none⟩=some (.string (bigS (fm a)))∧w'.cell? ⟨g,5,none⟩=some (.int .u64 (lowN (sz b.num)))∧w'.cell? ⟨g,6,none⟩=some (.string (bigS (sz b.num)))∧w'.cell? ⟨g,7,none⟩=some (.bool (ng b.num))∧w'.cell? ⟨g,8,none⟩=some (.int .u64 (lowN (fm b)))∧w'.cell? ⟨g,9,none⟩=some (.string (bigS (fm b)))∧w'.cell? ⟨g,10,none⟩=some (.int .u64 (lowN (sz c.num)))∧w'.cell? ⟨g,11,none⟩=some (.string (bigS (sz c.num)))∧w'.cell? ⟨g,12,none⟩=some (.bool (ng c.num))∧w'.cell? ⟨g,13,none⟩=some (.int .u64 (lowN (fm c)))∧w'.cell? ⟨g,14,none⟩=some (.string (bigS (fm c)))∧w'.cell? ⟨nb,0,none⟩=some (.int .i64 n)∧w'.cell? ⟨nb,1,none⟩=some (.int .u32 d))) (by kernel_rfl) ?_ (fun hHeld=>?_)
 ·simp [go_sem, *]
 refine tk 0 (some 82) (k3V a b c) ?_
 try simp only [pS]
 refine tk 1 (some 83) (qV n d) ?_
 try simp only [pS]
 refine wpAnyH_ready (rs:= [2,5]) (by kernel_rfl) (by simp) ?_
 refine AllReadyH.cons rfl (fun K hK=>?_) (AllReadyH.cons rfl (fun K hK=>?_) AllReadyH.nil)
 ·go_simp
  (refine(H.hn _).mono ?_;rintro e w31 ⟨rfl,hg31⟩;(try (with_reducible replace hg31:=Gr.of_drew hg31));have hsz31:=hg31.size;(try simp at hsz31);have hy31_0:g<w31.heap.size:=(by omega);have hy31_1:nb<w31.heap.size:=(by omega);obtain ⟨hc31,hf31⟩:=hg31.cells;have HG31:=Lib.hid hg31;clear hg31)
  (try dsimp only)
  refine hK.out _ _ ?_ (fun hQ1=>?_)
  ·(first|exact trivial|((try dsimp only);simp [go_sem, *]))
  clear hK K hHeld
  try simp only [pS]
  refine wpAnyH_ready (rs:= [3,5]) (by kernel_rfl) (by simp) ?_
  refine AllReadyH.cons rfl (fun K hK=>?_) (AllReadyH.cons rfl (fun K hK=>?_) AllReadyH.nil)
  ·go_simp
   (refine(H.hCo _).mono ?_;rintro e w32 ⟨v32,rfl,hS32,hg32⟩;(try (with_reducible replace hg32:=Gr.of_drew hg32));have hsz32:=hg32.size;(try simp at hsz32);have hy32_0:g<w32.heap.size:=(by omega);have hy32_1:nb<w32.heap.size:=(by omega);obtain ⟨hc32,hf32⟩:=hg32.cells;have HG32:=Lib.hid hg32;clear hg32;have HS32:=Lib.hid hS32;clear hS32)
   (try dsimp only)
   refine hK.out _ _ ?_ (fun hQ2=>?_)
   ·(first|exact trivial|((try dsimp only);simp [go_sem, *]))
   clear hK K hQ1
   try simp only [pS]
   refine wpAnyH_ready (rs:= [4,5]) (by kernel_rfl) (by simp) ?_
   refine AllReadyH.cons rfl (fun K hK=>?_) (AllReadyH.cons rfl (fun K hK=>?_) AllReadyH.nil)
   ·go_simp
    (refine(H.hF4 v32 _ (by exact(HS32.out.mono (Nat.zero_le _)).gr (by exact .z))).mono ?_;rintro e w33 ⟨x,y,rfl,hx,hy,hg33⟩;(try (with_reducible replace hg33:=Gr.of_drew hg33));obtain ⟨xa,xc,rfl⟩:=hx.at;obtain ⟨ya,yc,rfl⟩:=hy.at;have hsz33:=hg33.size;(try simp at hsz33);have hy33_0:g<w33.heap.size:=(by omega);have hy33_1:nb<w33.heap.size:=(by omega);obtain ⟨hc33,hf33⟩:=hg33.cells;have HG33:=Lib.hid hg33;have HX:=Lib.hid hx;have HY:=Lib.hid hy;clear hx hy hg33)
    (try dsimp only)
    refine hK.out _ _ ?_ (fun hQ3=>?_)
    ·(first|exact trivial|((try dsimp only);simp [go_sem, *]))
    clear hK K hQ2
    try simp only [pS]
    refine wpAnyH_ready (rs:= [5]) (by kernel_rfl) (by simp) ?_
    refine AllReadyH.cons rfl (fun K hK=>?_) AllReadyH.nil
    go_simp
    have ha4_0:g<w33.heap.size+1:=(by omega)
    have ha4_1:nb<w33.heap.size+1:=(by omega)
    have ha4_2:w33.heap.size<w33.heap.size+1:=(by omega)
    (try dsimp only)
    refine hK.out _ _ ?_ (fun hQ4=>?_)
    ·(first|exact trivial|((try dsimp only);simp [go_sem, *]))
    clear hK K hQ3
    try simp only [pS]
    refine rd 6 (fun K hK=>?_)
    go_simp
    (try dsimp only)
    refine hK.out _ _ ?_ (fun hQ5=>?_)
    ·(first|exact trivial|((try dsimp only);simp [go_sem, *]))
    clear hK K hQ4
    try simp only [pS]
    refine wpAnyH_done (by kernel_rfl) ?_ _
    go_wp2_with fail
    refine Met.intro ?_
    refine t13 H _ _ _ HZ hlZ HN hlN HA hlA HC hlC HD hlD HE hlE HF hlF HPu HPv HPs HPt HPg0 HPg1 HPh0 HPh1 HPi0 HPi1 HW hww r0 r1 (F2.mk (x:= .slice xa f0.length xc) (y:= .slice ya f1.length yc) (by(with_reducible (repeat' (first|(refine VB.new' ?_;exact(by first|omega|(simp;done)|(simp;omega)))|apply VB.put2|apply VB.put3|apply VB.put5|refine VB.drew ?_|refine VB.far ?_ ?_ _|refine VB.alloc ?_ _|refine VB.gr ?_ HG33.out ?_|refine VB.gr ?_ HG32.out ?_|refine VB.gr ?_ HG31.out ?_|omega|(simp;done)|(simp;omega))))) ?_ ?_) (by exact .c HG33 (.c HG32 (.c HG31 .z)))
    ·exact(HX.out.mono (Nat.zero_le _)).gr (by exact .z)
    ·exact(HY.out.mono (Nat.zero_le _)).gr (by exact .z)
   ·go_simp
    have ha3_0:g<w32.heap.size+1:=(by omega)
    have ha3_1:nb<w32.heap.size+1:=(by omega)
    have ha3_2:w32.heap.size<w32.heap.size+1:=(by omega)
    (try dsimp only)
    refine hK.out _ _ ?_ (fun hQ3=>?_)
    ·(first|exact trivial|((try dsimp only);simp [go_sem, *]))
    clear hK K hQ2
    try simp only [pS]
    refine wpAnyH_ready (rs:= [4]) (by kernel_rfl) (by simp) ?_
    refine AllReadyH.cons rfl (fun K hK=>?_) AllReadyH.nil
    go_simp
    (refine(H.hF4 v32 _ (by exact(HS32.out.mono (Nat.zero_le _)).gr (by exact .z))).mono ?_;rintro e w33 ⟨x,y,rfl,hx,hy,hg33⟩;(try (with_reducible replace hg33:=Gr.of_drew hg33));obtain ⟨xa,xc,rfl⟩:=hx.at;obtain ⟨ya,yc,rfl⟩:=hy.at;have hsz33:=hg33.size;(try simp at hsz33);have hy33_0:g<w33.heap.size:=(by omega);have hy33_1:nb<w33.heap.size:=(by omega);have hy33_2:w32.heap.size<w33.heap.size:=(by omega);obtain ⟨hc33,hf33⟩:=hg33.cells;have HG33:=Lib.hid hg33;have HX:=Lib.hid hx;have HY:=Lib.hid hy;clear hx hy hg33)
    (try dsimp only)
    refine hK.out _ _ ?_ (fun hQ4=>?_)
    ·(first|exact trivial|((try dsimp only);simp [go_sem, *]))
    clear hK K hQ3
    try simp only [pS]
    refine rd 6 (fun K hK=>?_)
    go_simp
    (try dsimp only)
    refine hK.out _ _ ?_ (fun hQ5=>?_)
    ·(first|exact trivial|((try dsimp only);simp [go_sem, *]))
    clear hK K hQ4
    try simp only [pS]
    refine wpAnyH_done (by kernel_rfl) ?_ _
    go_wp2_with fail
    refine Met.intro ?_
    refine t13 H _ _ _ HZ hlZ HN hlN HA hlA HC hlC HD hlD HE hlE HF hlF HPu HPv HPs HPt HPg0 HPg1 HPh0 HPh1 HPi0 HPi1 HW hww r0 r1 (F2.mk (x:= .slice xa f0.length xc) (y:= .slice ya f1.length yc) (by(with_reducible (repeat' (first|(refine VB.new' ?_;exact(by first|omega|(simp;done)|(simp;omega)))|apply VB.put2|apply VB.put3|apply VB.put5|refine VB.drew ?_|refine VB.far ?_ ?_ _|refine VB.alloc ?_ _|refine VB.gr ?_ HG33.out ?_|refine VB.gr ?_ HG32.out ?_|refine VB.gr ?_ HG31.out ?_|omega|(simp;done)|(simp;omega))))) ?_ ?_) (by exact .c HG33 (.c HG32 (.c HG31 .z)))
    ·exact SL.mono (SL.far (SL.far HX.out (by first|omega|(simp;done)|(simp;omega)) _) (by first|omega|(simp;done)|(simp;omega)) _) (Nat.zero_le _)
    ·exact SL.mono (SL.far (SL.far HY.out (by first|omega|(simp;done)|(simp;omega)) _) (by first|omega|(simp;done)|(simp;omega)) _) (Nat.zero_le _)
  ·go_simp
   have ha2_0:g<w31.heap.size+1:=(by omega)
   have ha2_1:nb<w31.heap.size+1:=(by omega)
   have ha2_2:w31.heap.size<w31.heap.size+1:=(by omega)
   (try dsimp only)
   refine hK.out _ _ ?_ (fun hQ2=>?_)
   ·(first|exact trivial|((try dsimp only);simp [go_sem, *]))
   clear hK K hQ1
   try simp only [pS]
   refine wpAnyH_ready (rs:= [3]) (by kernel_rfl) (by simp) ?_
   refine AllReadyH.cons rfl (fun K hK=>?_) AllReadyH.nil
   go_simp
   (refine(H.hCo _).mono ?_;rintro e w32 ⟨v32,rfl,hS32,hg32⟩;(try (with_reducible replace hg32:=Gr.of_drew hg32));have hsz32:=hg32.size;(try simp at hsz32);have hy32_0:g<w32.heap.size:=(by omega);have hy32_1:nb<w32.heap.size:=(by omega);have hy32_2:w31.heap.size<w32.heap.size:=(by omega);obtain ⟨hc32,hf32⟩:=hg32.cells;have HG32:=Lib.hid hg32;clear hg32;have HS32:=Lib.hid hS32;clear hS32)
   (try dsimp only)
   refine hK.out _ _ ?_ (fun hQ3=>?_)
   ·(first|exact trivial|((try dsimp only);simp [go_sem, *]))
   clear hK K hQ2
   try simp only [pS]
   refine wpAnyH_ready (rs:= [4]) (by kernel_rfl) (by simp) ?_
   refine AllReadyH.cons rfl (fun K hK=>?_) AllReadyH.nil
   go_simp
   (refine(H.hF4 v32 _ (by exact(HS32.out.mono (Nat.zero_le _)).gr (by exact .z))).mono ?_;rintro e w33 ⟨x,y,rfl,hx,hy,hg33⟩;(try (with_reducible replace hg33:=Gr.of_drew hg33));obtain ⟨xa,xc,rfl⟩:=hx.at;obtain ⟨ya,yc,rfl⟩:=hy.at;have hsz33:=hg33.size;(try simp at hsz33);have hy33_0:g<w33.heap.size:=(by omega);have hy33_1:nb<w33.heap.size:=(by omega);have hy33_2:w31.heap.size<w33.heap.size:=(by omega);obtain ⟨hc33,hf33⟩:=hg33.cells;have HG33:=Lib.hid hg33;have HX:=Lib.hid hx;have HY:=Lib.hid hy;clear hx hy hg33)
   (try dsimp only)
   refine hK.out _ _ ?_ (fun hQ4=>?_)
   ·(first|exact trivial|((try dsimp only);simp [go_sem, *]))
   clear hK K hQ3
   try simp only [pS]
   refine rd 6 (fun K hK=>?_)
   go_simp
   (try dsimp only)
   refine hK.out _ _ ?_ (fun hQ5=>?_)
   ·(first|exact trivial|((try dsimp only);simp [go_sem, *]))
   clear hK K hQ4
   try simp only [pS]
   refine wpAnyH_done (by kernel_rfl) ?_ _
   go_wp2_with fail
   refine Met.intro ?_
   refine t13 H _ _ _ HZ hlZ HN hlN HA hlA HC hlC HD hlD HE hlE HF hlF HPu HPv HPs HPt HPg0 HPg1 HPh0 HPh1 HPi0 HPi1 HW hww r0 r1 (F2.mk (x:= .slice xa f0.length xc) (y:= .slice ya f1.length yc) (by(with_reducible (repeat' (first|(refine VB.new' ?_;exact(by first|omega|(simp;done)|(simp;omega)))|apply VB.put2|apply VB.put3|apply VB.put5|refine VB.drew ?_|refine VB.far ?_ ?_ _|refine VB.alloc ?_ _|refine VB.gr ?_ HG33.out ?_|refine VB.gr ?_ HG32.out ?_|refine VB.gr ?_ HG31.out ?_|omega|(simp;done)|(simp;omega))))) ?_ ?_) (by exact .c HG33 (.c HG32 (.c HG31 .z)))
   ·exact SL.mono (SL.far (SL.far HX.out (by first|omega|(simp;done)|(simp;omega)) _) (by first|omega|(simp;done)|(simp;omega)) _) (Nat.zero_le _)
   ·exact SL.mono (SL.far (SL.far HY.out (by first|omega|(simp;done)|(simp;omega)) _) (by first|omega|(simp;done)|(simp;omega)) _) (Nat.zero_le _)
 ·go_simp
  have ha1_0:g<wq11.heap.size+1:=(by omega)
  have ha1_1:nb<wq11.heap.size+1:=(by omega)
  have ha1_2:wq11.heap.size<wq11.heap.size+1:=(by omega)
  (try dsimp only)
  refine hK.out _ _ ?_ (fun hQ1=>?_)
  ·(first|exact trivial|((try dsimp only);simp [go_sem, *]))
  clear hK K hHeld
  try simp only [pS]
  refine wpAnyH_ready (rs:= [2]) (by kernel_rfl) (by simp) ?_
  refine AllReadyH.cons rfl (fun K hK=>?_) AllReadyH.nil
  go_simp
  (refine(H.hn _).mono ?_;rintro e w31 ⟨rfl,hg31⟩;(try (with_reducible replace hg31:=Gr.of_drew hg31));have hsz31:=hg31.size;(try simp at hsz31);have hy31_0:g<w31.heap.size:=(by omega);have hy31_1:nb<w31.heap.size:=(by omega);have hy31_2:wq11.heap.size<w31.heap.size:=(by omega);obtain ⟨hc31,hf31⟩:=hg31.cells;have HG31:=Lib.hid hg31;clear hg31)
  (try dsimp only)
  refine hK.out _ _ ?_ (fun hQ2=>?_)
  ·(first|exact trivial|((try dsimp only);simp [go_sem, *]))
  clear hK K hQ1
  try simp only [pS]
  refine wpAnyH_ready (rs:= [3]) (by kernel_rfl) (by simp) ?_
  refine AllReadyH.cons rfl (fun K hK=>?_) AllReadyH.nil
  go_simp
  (refine(H.hCo _).mono ?_;rintro e w32 ⟨v32,rfl,hS32,hg32⟩;(try (with_reducible replace hg32:=Gr.of_drew hg32));have hsz32:=hg32.size;(try simp at hsz32);have hy32_0:g<w32.heap.size:=(by omega);have hy32_1:nb<w32.heap.size:=(by omega);have hy32_2:wq11.heap.size<w32.heap.size:=(by omega);obtain ⟨hc32,hf32⟩:=hg32.cells;have HG32:=Lib.hid hg32;clear hg32;have HS32:=Lib.hid hS32;clear hS32)
  (try dsimp only)
  refine hK.out _ _ ?_ (fun hQ3=>?_)
  ·(first|exact trivial|((try dsimp only);simp [go_sem, *]))
  clear hK K hQ2
  try simp only [pS]
  refine wpAnyH_ready (rs:= [4]) (by kernel_rfl) (by simp) ?_
  refine AllReadyH.cons rfl (fun K hK=>?_) AllReadyH.nil
  go_simp
  (refine(H.hF4 v32 _ (by exact(HS32.out.mono (Nat.zero_le _)).gr (by exact .z))).mono ?_;rintro e w33 ⟨x,y,rfl,hx,hy,hg33⟩;(try (with_reducible replace hg33:=Gr.of_drew hg33));obtain ⟨xa,xc,rfl⟩:=hx.at;obtain ⟨ya,yc,rfl⟩:=hy.at;have hsz33:=hg33.size;(try simp at hsz33);have hy33_0:g<w33.heap.size:=(by omega);have hy33_1:nb<w33.heap.size:=(by omega);have hy33_2:wq11.heap.size<w33.heap.size:=(by omega);obtain ⟨hc33,hf33⟩:=hg33.cells;have HG33:=Lib.hid hg33;have HX:=Lib.hid hx;have HY:=Lib.hid hy;clear hx hy hg33)
  (try dsimp only)
  refine hK.out _ _ ?_ (fun hQ4=>?_)
  ·(first|exact trivial|((try dsimp only);simp [go_sem, *]))
  clear hK K hQ3
  try simp only [pS]
  refine rd 6 (fun K hK=>?_)
  go_simp
  (try dsimp only)
  refine hK.out _ _ ?_ (fun hQ5=>?_)
  ·(first|exact trivial|((try dsimp only);simp [go_sem, *]))
  clear hK K hQ4
  try simp only [pS]
  refine wpAnyH_done (by kernel_rfl) ?_ _
  go_wp2_with fail
  refine Met.intro ?_
  refine t13 H _ _ _ HZ hlZ HN hlN HA hlA HC hlC HD hlD HE hlE HF hlF HPu HPv HPs HPt HPg0 HPg1 HPh0 HPh1 HPi0 HPi1 HW hww r0 r1 (F2.mk (x:= .slice xa f0.length xc) (y:= .slice ya f1.length yc) (by(with_reducible (repeat' (first|(refine VB.new' ?_;exact(by first|omega|(simp;done)|(simp;omega)))|apply VB.put2|apply VB.put3|apply VB.put5|refine VB.drew ?_|refine VB.far ?_ ?_ _|refine VB.alloc ?_ _|refine VB.gr ?_ HG33.out ?_|refine VB.gr ?_ HG32.out ?_|refine VB.gr ?_ HG31.out ?_|omega|(simp;done)|(simp;omega))))) ?_ ?_) (by exact .c HG33 (.c HG32 (.c HG31 .z)))
  ·exact SL.mono (SL.far (SL.far HX.out (by first|omega|(simp;done)|(simp;omega)) _) (by first|omega|(simp;done)|(simp;omega)) _) (Nat.zero_le _)
  ·exact SL.mono (SL.far (SL.far HY.out (by first|omega|(simp;done)|(simp;omega)) _) (by first|omega|(simp;done)|(simp;omega)) _) (Nat.zero_le _)
set_option maxRecDepth 20000 in
set_option maxHeartbeats 8000000 in
theorem t11 (H:Hyp n0 n1 n2 n3 n d0 d1 d2 d3 d l0 l1 p0 p1 m0 m1 a b c q r u zz vv auv s su sz' ssz t g0 g1 h0 h1 i0 i1 cn f0 f1 lx ly sx sy pl pp e0 e1) (w wq9 wq10:World) {kb zb nb:Nat} {g:Nat} {cb:Nat} {u9:Value} {u10:Value} {u11:Value} {u12:Value} {gd:Nat} {gg1 gg3:Option Addr} {gg2 gg4:Nat} {hd:Nat}
  (HZ:Hid (VB wq9 zb [.slice p0 l0.length m0,.slice p1 l1.length m1])) (hlZ:zb<wq9.heap.size) (HN:Hid (VB wq9 nb [.int .i64 n,.int .u32 d])) (hlN:nb<wq9.heap.size) (HA:Hid (VB wq9 g [.int .u64 (lowN (sz a.num)),.string (bigS (sz a.num)),.bool (ng a.num),.int .u64 (lowN (fm a)),.string (bigS (fm a)),.int .u64 (lowN (sz b.num)),.string (bigS (sz b.num)),.bool (ng b.num),.int .u64 (lowN (fm b)),.string (bigS (fm b)),.int .u64 (lowN (sz c.num)),.string (bigS (sz c.num)),.bool (ng c.num),.int .u64 (lowN (fm c)),.string (bigS (fm c))])) (hlA:g<wq9.heap.size) (HC:Hid (VB wq9 cb [.int .u64 (lowN (sz q.num)),.string (bigS (sz q.num)),.bool (ng q.num),.int .u64 (lowN (fm q)),.string (bigS (fm q))])) (hlC:cb<wq9.heap.size) (HD:Hid (VB wq9 gd [.slice gg1 g0.length gg2,.slice gg3 g1.length gg4])) (hlD:gd<wq9.heap.size) (HPu:Hid (PL wq9 0 u9 u)) (HPv:Hid (PL wq9 0 u10 vv)) (HPs:Hid (PL wq9 0 u11 s)) (HPt:Hid (PL wq9 0 u12 t)) (HPg0:Hid (PL wq9 0 (.slice gg1 g0.length gg2) g0)) (HPg1:Hid (PL wq9 0 (.slice gg3 g1.length gg4) g1)) (HW:Hid (Gr w.heap.size w wq9)) (hww:w.heap.size≤wq9.heap.size) (r0:Hid (RS tqC 4 w (.slice p0 l0.length m0) l0)) (r1:Hid (RS tqC 4 w (.slice p1 l1.length m1) l1))
  (hF:F2 wq10 hd h0 h1) (hgr:Gr wq9.heap.size wq9 wq10):
  Code.wp Tryz.prog (tl 11) (bodyPost Tryz.prog Tryz.f3 (Ret w (.bool true))) {tmps:= #[v0,v1,v2,.pointer (some ⟨kb,0,none⟩),.pointer (some ⟨zb,0,none⟩),.pointer (some ⟨nb,0,none⟩),v6,.pointer (some ⟨g,0,none⟩),.pointer (some ⟨cb,0,none⟩),u9,u10,u11,u12,.pointer (some ⟨gd,0,none⟩),.pointer (some ⟨hd,0,none⟩),v15,v16,v17,v18,v19,v20,v21,v22,v23,v24,v25,v26,v27,v28,v29,v30,v31,v32,v33,v34,v35,v36,v37,v38,v39,v40,v41,v42,v43,v44,v45,v46,v47,v48,v49,v50,v51,v52,v53,v54,v55,v56,v57,v58,v59,v60,v61,v62,v63,v64,v65,v66,v67,v68,v69,v70,v71,v72,v73,v74,v75,v76,v77,v78,v79,v80,v81,v82,v83,v84,v85,v86,v87,v88,v89,v90,v91,v92,v93,v94,v95,v96,v97,v98,v99,v100,v101,v102,v103,v104,v105,v106,v107,v108,v109,v110,v111,v112,v113,v114,v115,v116,v117,v118,v119,v120,v121,v122,v123,v124,v125,v126,v127,v128,v129,v130,v131,v132,v133,v134,v135,v136,v137,v138,v139,v140],defers:= []} wq10:=by
 obtain ⟨hh1,hh2,hh3,hh4,hV,hx,hy⟩:=hF.at
 clear hF
 have hsr:=hgr.size
 replace HZ:=Lib.hid (HZ.out.gr hgr hlZ)
 replace hlZ:zb<wq10.heap.size:=by omega
 replace HN:=Lib.hid (HN.out.gr hgr hlN)
 replace hlN:nb<wq10.heap.size:=by omega
 replace HA:=Lib.hid (HA.out.gr hgr hlA)
 replace hlA:g<wq10.heap.size:=by omega
 replace HC:=Lib.hid (HC.out.gr hgr hlC)
 replace hlC:cb<wq10.heap.size:=by omega
 replace HD:=Lib.hid (HD.out.gr hgr hlD)
 replace hlD:gd<wq10.heap.size:=by omega
 replace HPu:=Lib.hid (HPu.out.gr hgr)
 replace HPv:=Lib.hid (HPv.out.gr hgr)
 replace HPs:=Lib.hid (HPs.out.gr hgr)
 replace HPt:=Lib.hid (HPt.out.gr hgr)
 replace HPg0:=Lib.hid (HPg0.out.gr hgr)
 replace HPg1:=Lib.hid (HPg1.out.gr hgr)
 replace HW:=Lib.hid (HW.out.trans (hgr.mono hww))
 replace hww:w.heap.size≤wq10.heap.size:=by omega
 have HE:=Lib.hid hV
 have hlE:=HE.out.lt
 have HPh0:=Lib.hid hx
 have HPh1:=Lib.hid hy
 clear hgr hsr
 clear hV hx hy
 refine wp_tail (fun K' hK'=>?_)
 obtain ⟨a_0,a_1,a_2,a_3,a_4,a_5,a_6,a_7,a_8,a_9,a_10,a_11,a_12,a_13,a_14⟩:=HA.out.all15
 go_wp2_with fail
 (refine(H.hF3 _ _ (by exact HPv.out.gr (by exact .z))).mono ?_;rintro e w25 ⟨x,y,rfl,hx,hy,hg25⟩;(try (with_reducible replace hg25:=Gr.of_drew hg25));obtain ⟨xa,xc,rfl⟩:=hx.at;obtain ⟨ya,yc,rfl⟩:=hy.at;have hsz25:=hg25.size;(try simp at hsz25);have hy25_0:g<w25.heap.size:=(by omega);obtain ⟨hc25,hf25⟩:=hg25.cells;have HG25:=Lib.hid hg25;have HX:=Lib.hid hx;have HY:=Lib.hid hy;clear hx hy hg25)
 go_wp2_with fail
 refine Met.intro ?_
 refine t12 H _ _ _ HZ hlZ HN hlN HA hlA HC hlC HD hlD HE hlE HPu HPv HPs HPt HPg0 HPg1 HPh0 HPh1 HW hww r0 r1 (F2.mk (x:= .slice xa i0.length xc) (y:= .slice ya i1.length yc) (by(with_reducible (repeat' (first|(refine VB.new' ?_;exact(by first|omega|(simp;done)|(simp;omega)))|apply VB.put2|apply VB.put3|apply VB.put5|refine VB.drew ?_|refine VB.far ?_ ?_ _|refine VB.alloc ?_ _|refine VB.gr ?_ HG25.out ?_|omega|(simp;done)|(simp;omega))))) ?_ ?_) (by exact .c HG25 .z)
 ·exact(HX.out.mono (Nat.zero_le _)).gr (by exact .z)
 ·exact(HY.out.mono (Nat.zero_le _)).gr (by exact .z)
set_option maxRecDepth 20000 in
set_option maxHeartbeats 8000000 in
theorem t10 (H:Hyp n0 n1 n2 n3 n d0 d1 d2 d3 d l0 l1 p0 p1 m0 m1 a b c q r u zz vv auv s su sz' ssz t g0 g1 h0 h1 i0 i1 cn f0 f1 lx ly sx sy pl pp e0 e1) (w wq8 wq9:World) {kb zb nb:Nat} {g:Nat} {cb:Nat} {u9:Value} {u10:Value} {u11:Value} {u12:Value} {gd:Nat}
  (HZ:Hid (VB wq8 zb [.slice p0 l0.length m0,.slice p1 l1.length m1])) (hlZ:zb<wq8.heap.size) (HN:Hid (VB wq8 nb [.int .i64 n,.int .u32 d])) (hlN:nb<wq8.heap.size) (HA:Hid (VB wq8 g [.int .u64 (lowN (sz a.num)),.string (bigS (sz a.num)),.bool (ng a.num),.int .u64 (lowN (fm a)),.string (bigS (fm a)),.int .u64 (lowN (sz b.num)),.string (bigS (sz b.num)),.bool (ng b.num),.int .u64 (lowN (fm b)),.string (bigS (fm b)),.int .u64 (lowN (sz c.num)),.string (bigS (sz c.num)),.bool (ng c.num),.int .u64 (lowN (fm c)),.string (bigS (fm c))])) (hlA:g<wq8.heap.size) (HC:Hid (VB wq8 cb [.int .u64 (lowN (sz q.num)),.string (bigS (sz q.num)),.bool (ng q.num),.int .u64 (lowN (fm q)),.string (bigS (fm q))])) (hlC:cb<wq8.heap.size) (HPu:Hid (PL wq8 0 u9 u)) (HPv:Hid (PL wq8 0 u10 vv)) (HPs:Hid (PL wq8 0 u11 s)) (HPt:Hid (PL wq8 0 u12 t)) (HW:Hid (Gr w.heap.size w wq8)) (hww:w.heap.size≤wq8.heap.size) (r0:Hid (RS tqC 4 w (.slice p0 l0.length m0) l0)) (r1:Hid (RS tqC 4 w (.slice p1 l1.length m1) l1))
  (hF:F2 wq9 gd g0 g1) (hgr:Gr wq8.heap.size wq8 wq9):
  Code.wp Tryz.prog (tl 10) (bodyPost Tryz.prog Tryz.f3 (Ret w (.bool true))) {tmps:= #[v0,v1,v2,.pointer (some ⟨kb,0,none⟩),.pointer (some ⟨zb,0,none⟩),.pointer (some ⟨nb,0,none⟩),v6,.pointer (some ⟨g,0,none⟩),.pointer (some ⟨cb,0,none⟩),u9,u10,u11,u12,.pointer (some ⟨gd,0,none⟩),v14,v15,v16,v17,v18,v19,v20,v21,v22,v23,v24,v25,v26,v27,v28,v29,v30,v31,v32,v33,v34,v35,v36,v37,v38,v39,v40,v41,v42,v43,v44,v45,v46,v47,v48,v49,v50,v51,v52,v53,v54,v55,v56,v57,v58,v59,v60,v61,v62,v63,v64,v65,v66,v67,v68,v69,v70,v71,v72,v73,v74,v75,v76,v77,v78,v79,v80,v81,v82,v83,v84,v85,v86,v87,v88,v89,v90,v91,v92,v93,v94,v95,v96,v97,v98,v99,v100,v101,v102,v103,v104,v105,v106,v107,v108,v109,v110,v111,v112,v113,v114,v115,v116,v117,v118,v119,v120,v121,v122,v123,v124,v125,v126,v127,v128,v129,v130,v131,v132,v133,v134,v135,v136,v137,v138,v139,v140],defers:= []} wq9:=by
 obtain ⟨gg1,gg2,gg3,gg4,hV,hx,hy⟩:=hF.at
 clear hF
 have hsr:=hgr.size
 replace HZ:=Lib.hid (HZ.out.gr hgr hlZ)
 replace hlZ:zb<wq9.heap.size:=by omega
 replace HN:=Lib.hid (HN.out.gr hgr hlN)
 replace hlN:nb<wq9.heap.size:=by omega
 replace HA:=Lib.hid (HA.out.gr hgr hlA)
 replace hlA:g<wq9.heap.size:=by omega
 replace HC:=Lib.hid (HC.out.gr hgr hlC)
 replace hlC:cb<wq9.heap.size:=by omega
 replace HPu:=Lib.hid (HPu.out.gr hgr)
 replace HPv:=Lib.hid (HPv.out.gr hgr)
 replace HPs:=Lib.hid (HPs.out.gr hgr)
 replace HPt:=Lib.hid (HPt.out.gr hgr)
 replace HW:=Lib.hid (HW.out.trans (hgr.mono hww))
 replace hww:w.heap.size≤wq9.heap.size:=by omega
 have HD:=Lib.hid hV
 have hlD:=HD.out.lt
 have HPg0:=Lib.hid hx
 have HPg1:=Lib.hid hy
 clear hgr hsr
 clear hV hx hy
 refine wp_tail (fun K' hK'=>?_)
 obtain ⟨a_0,a_1,a_2,a_3,a_4,a_5,a_6,a_7,a_8,a_9,a_10,a_11,a_12,a_13,a_14⟩:=HA.out.all15
 go_wp2_with fail
 (refine(H.hF2 _ _ (by exact HPu.out.gr (by exact .z))).mono ?_;rintro e w24 ⟨x,y,rfl,hx,hy,hg24⟩;(try (with_reducible replace hg24:=Gr.of_drew hg24));obtain ⟨xa,xc,rfl⟩:=hx.at;obtain ⟨ya,yc,rfl⟩:=hy.at;have hsz24:=hg24.size;(try simp at hsz24);have hy24_0:g<w24.heap.size:=(by omega);obtain ⟨hc24,hf24⟩:=hg24.cells;have HG24:=Lib.hid hg24;have HX:=Lib.hid hx;have HY:=Lib.hid hy;clear hx hy hg24)
 go_wp2_with fail
 refine Met.intro ?_
 refine t11 H _ _ _ HZ hlZ HN hlN HA hlA HC hlC HD hlD HPu HPv HPs HPt HPg0 HPg1 HW hww r0 r1 (F2.mk (x:= .slice xa h0.length xc) (y:= .slice ya h1.length yc) (by(with_reducible (repeat' (first|(refine VB.new' ?_;exact(by first|omega|(simp;done)|(simp;omega)))|apply VB.put2|apply VB.put3|apply VB.put5|refine VB.drew ?_|refine VB.far ?_ ?_ _|refine VB.alloc ?_ _|refine VB.gr ?_ HG24.out ?_|omega|(simp;done)|(simp;omega))))) ?_ ?_) (by exact .c HG24 .z)
 ·exact(HX.out.mono (Nat.zero_le _)).gr (by exact .z)
 ·exact(HY.out.mono (Nat.zero_le _)).gr (by exact .z)
set_option maxRecDepth 20000 in
set_option maxHeartbeats 8000000 in
theorem t9 (H:Hyp n0 n1 n2 n3 n d0 d1 d2 d3 d l0 l1 p0 p1 m0 m1 a b c q r u zz vv auv s su sz' ssz t g0 g1 h0 h1 i0 i1 cn f0 f1 lx ly sx sy pl pp e0 e1) (w wq7 wq8:World) {kb zb nb:Nat} {g:Nat} {cb:Nat} {u9:Value} {u10:Value} {u11:Value} {u12:Value}
  (HZ:Hid (VB wq7 zb [.slice p0 l0.length m0,.slice p1 l1.length m1])) (hlZ:zb<wq7.heap.size) (HN:Hid (VB wq7 nb [.int .i64 n,.int .u32 d])) (hlN:nb<wq7.heap.size) (HA:Hid (VB wq7 g [.int .u64 (lowN (sz a.num)),.string (bigS (sz a.num)),.bool (ng a.num),.int .u64 (lowN (fm a)),.string (bigS (fm a)),.int .u64 (lowN (sz b.num)),.string (bigS (sz b.num)),.bool (ng b.num),.int .u64 (lowN (fm b)),.string (bigS (fm b)),.int .u64 (lowN (sz c.num)),.string (bigS (sz c.num)),.bool (ng c.num),.int .u64 (lowN (fm c)),.string (bigS (fm c))])) (hlA:g<wq7.heap.size) (HC:Hid (VB wq7 cb [.int .u64 (lowN (sz q.num)),.string (bigS (sz q.num)),.bool (ng q.num),.int .u64 (lowN (fm q)),.string (bigS (fm q))])) (hlC:cb<wq7.heap.size) (HPu:Hid (PL wq7 0 u9 u)) (HPv:Hid (PL wq7 0 u10 vv)) (HPs:Hid (PL wq7 0 u11 s)) (HW:Hid (Gr w.heap.size w wq7)) (hww:w.heap.size≤wq7.heap.size) (r0:Hid (RS tqC 4 w (.slice p0 l0.length m0) l0)) (r1:Hid (RS tqC 4 w (.slice p1 l1.length m1) l1))
  (hPn:PL wq8 0 u12 t) (hgr:Gr wq7.heap.size wq7 wq8):
  Code.wp Tryz.prog (tl 9) (bodyPost Tryz.prog Tryz.f3 (Ret w (.bool true))) {tmps:= #[v0,v1,v2,.pointer (some ⟨kb,0,none⟩),.pointer (some ⟨zb,0,none⟩),.pointer (some ⟨nb,0,none⟩),v6,.pointer (some ⟨g,0,none⟩),.pointer (some ⟨cb,0,none⟩),u9,u10,u11,u12,v13,v14,v15,v16,v17,v18,v19,v20,v21,v22,v23,v24,v25,v26,v27,v28,v29,v30,v31,v32,v33,v34,v35,v36,v37,v38,v39,v40,v41,v42,v43,v44,v45,v46,v47,v48,v49,v50,v51,v52,v53,v54,v55,v56,v57,v58,v59,v60,v61,v62,v63,v64,v65,v66,v67,v68,v69,v70,v71,v72,v73,v74,v75,v76,v77,v78,v79,v80,v81,v82,v83,v84,v85,v86,v87,v88,v89,v90,v91,v92,v93,v94,v95,v96,v97,v98,v99,v100,v101,v102,v103,v104,v105,v106,v107,v108,v109,v110,v111,v112,v113,v114,v115,v116,v117,v118,v119,v120,v121,v122,v123,v124,v125,v126,v127,v128,v129,v130,v131,v132,v133,v134,v135,v136,v137,v138,v139,v140],defers:= []} wq8:=by
 have hsr:=hgr.size
 replace HZ:=Lib.hid (HZ.out.gr hgr hlZ)
 replace hlZ:zb<wq8.heap.size:=by omega
 replace HN:=Lib.hid (HN.out.gr hgr hlN)
 replace hlN:nb<wq8.heap.size:=by omega
 replace HA:=Lib.hid (HA.out.gr hgr hlA)
 replace hlA:g<wq8.heap.size:=by omega
 replace HC:=Lib.hid (HC.out.gr hgr hlC)
 replace hlC:cb<wq8.heap.size:=by omega
 replace HPu:=Lib.hid (HPu.out.gr hgr)
 replace HPv:=Lib.hid (HPv.out.gr hgr)
 replace HPs:=Lib.hid (HPs.out.gr hgr)
 replace HW:=Lib.hid (HW.out.trans (hgr.mono hww))
 replace hww:w.heap.size≤wq8.heap.size:=by omega
 have HPt:=Lib.hid hPn
 clear hgr hsr
 clear hPn
 refine wp_tail (fun K' hK'=>?_)
 obtain ⟨a_0,a_1,a_2,a_3,a_4,a_5,a_6,a_7,a_8,a_9,a_10,a_11,a_12,a_13,a_14⟩:=HA.out.all15
 refine wp_region_held_drew (S:=(fun w'=>w'.cell? ⟨g,0,none⟩=some (.int .u64 (lowN (sz a.num)))∧w'.cell? ⟨g,1,none⟩=some (.string (bigS (sz a.num)))∧w'.cell? ⟨g,2,none⟩=some (.bool (ng a.num))∧w'.cell? ⟨g,3,none⟩=some (.int .u64 (lowN (fm a)))∧w'.cell? ⟨g,4,none⟩=some (.string (bigS (fm a)))∧w'.cell? ⟨g,5,none⟩=some (.int .u64 (lowN (sz b.num)))∧w'.cell? ⟨g,6,none⟩=some (.string (bigS (sz b.num)))∧w'.cell? ⟨g,7,none⟩=some (.bool (ng b.num))∧w'.cell? ⟨g,8,none⟩=some (.int .u64 (lowN (fm b)))∧w'.cell? ⟨g,9,none⟩=some (.string (bigS (fm b)))∧w'.cell? ⟨g,10,none⟩=some (.int .u64 (lowN (sz c.num)))∧w'.cell? ⟨g,11,none⟩=some (.string (bigS (sz c.num)))∧w'.cell? ⟨g,12,none⟩=some (.bool (ng c.num))∧w'.cell? ⟨g,13,none⟩=some (.int .u64 (lowN (fm c)))∧w'.cell? ⟨g,14,none⟩=some (.string (bigS (fm c))))) (by kernel_rfl) ?_ (fun hHeld=>?_)
 ·simp [go_sem, *]
 refine tk 0 (some 71) (k3V a b c) ?_
 try simp only [pS]
 refine tk 1 (some 72) (u9) ?_
 try simp only [pS]
 refine tk 2 (some 73) (u10) ?_
 try simp only [pS]
 refine wpAnyH_ready (rs:= [3,5]) (by kernel_rfl) (by simp) ?_
 refine AllReadyH.cons rfl (fun K hK=>?_) (AllReadyH.cons rfl (fun K hK=>?_) AllReadyH.nil)
 ·go_simp
  (refine(H.hAuv u9 u10 _ (by exact HPu.out.gr (by exact .z)) (by exact HPv.out.gr (by exact .z))).mono ?_;rintro e w21 ⟨v21,rfl,hS21,hg21⟩;(try (with_reducible replace hg21:=Gr.of_drew hg21));have hsz21:=hg21.size;(try simp at hsz21);have hy21_0:g<w21.heap.size:=(by omega);obtain ⟨hc21,hf21⟩:=hg21.cells;have HG21:=Lib.hid hg21;clear hg21;have HS21:=Lib.hid hS21;clear hS21)
  (try dsimp only)
  refine hK.out _ _ ?_ (fun hQ1=>?_)
  ·(first|exact trivial|((try dsimp only);simp [go_sem, *]))
  clear hK K hHeld
  try simp only [pS]
  refine wpAnyH_ready (rs:= [4,5]) (by kernel_rfl) (by simp) ?_
  refine AllReadyH.cons rfl (fun K hK=>?_) (AllReadyH.cons rfl (fun K hK=>?_) AllReadyH.nil)
  ·go_simp
   (refine(H.hF1 v21 _ (by exact(HS21.out.mono (Nat.zero_le _)).gr (by exact .z))).mono ?_;rintro e w22 ⟨x,y,rfl,hx,hy,hg22⟩;(try (with_reducible replace hg22:=Gr.of_drew hg22));obtain ⟨xa,xc,rfl⟩:=hx.at;obtain ⟨ya,yc,rfl⟩:=hy.at;have hsz22:=hg22.size;(try simp at hsz22);have hy22_0:g<w22.heap.size:=(by omega);obtain ⟨hc22,hf22⟩:=hg22.cells;have HG22:=Lib.hid hg22;have HX:=Lib.hid hx;have HY:=Lib.hid hy;clear hx hy hg22)
   (try dsimp only)
   refine hK.out _ _ ?_ (fun hQ2=>?_)
   ·(first|exact trivial|((try dsimp only);simp [go_sem, *]))
   clear hK K hQ1
   try simp only [pS]
   refine wpAnyH_ready (rs:= [5]) (by kernel_rfl) (by simp) ?_
   refine AllReadyH.cons rfl (fun K hK=>?_) AllReadyH.nil
   go_simp
   have ha3_0:g<w22.heap.size+1:=(by omega)
   have ha3_1:w22.heap.size<w22.heap.size+1:=(by omega)
   (try dsimp only)
   refine hK.out _ _ ?_ (fun hQ3=>?_)
   ·(first|exact trivial|((try dsimp only);simp [go_sem, *]))
   clear hK K hQ2
   try simp only [pS]
   refine rd 6 (fun K hK=>?_)
   go_simp
   (try dsimp only)
   refine hK.out _ _ ?_ (fun hQ4=>?_)
   ·(first|exact trivial|((try dsimp only);simp [go_sem, *]))
   clear hK K hQ3
   try simp only [pS]
   refine wpAnyH_done (by kernel_rfl) ?_ _
   go_wp2_with fail
   refine Met.intro ?_
   refine t10 H _ _ _ HZ hlZ HN hlN HA hlA HC hlC HPu HPv HPs HPt HW hww r0 r1 (F2.mk (x:= .slice xa g0.length xc) (y:= .slice ya g1.length yc) (by(with_reducible (repeat' (first|(refine VB.new' ?_;exact(by first|omega|(simp;done)|(simp;omega)))|apply VB.put2|apply VB.put3|apply VB.put5|refine VB.drew ?_|refine VB.far ?_ ?_ _|refine VB.alloc ?_ _|refine VB.gr ?_ HG22.out ?_|refine VB.gr ?_ HG21.out ?_|omega|(simp;done)|(simp;omega))))) ?_ ?_) (by exact .c HG22 (.c HG21 .z))
   ·exact(HX.out.mono (Nat.zero_le _)).gr (by exact .z)
   ·exact(HY.out.mono (Nat.zero_le _)).gr (by exact .z)
  ·go_simp
   have ha2_0:g<w21.heap.size+1:=(by omega)
   have ha2_1:w21.heap.size<w21.heap.size+1:=(by omega)
   (try dsimp only)
   refine hK.out _ _ ?_ (fun hQ2=>?_)
   ·(first|exact trivial|((try dsimp only);simp [go_sem, *]))
   clear hK K hQ1
   try simp only [pS]
   refine wpAnyH_ready (rs:= [4]) (by kernel_rfl) (by simp) ?_
   refine AllReadyH.cons rfl (fun K hK=>?_) AllReadyH.nil
   go_simp
   (refine(H.hF1 v21 _ (by exact(HS21.out.mono (Nat.zero_le _)).gr (by exact .z))).mono ?_;rintro e w22 ⟨x,y,rfl,hx,hy,hg22⟩;(try (with_reducible replace hg22:=Gr.of_drew hg22));obtain ⟨xa,xc,rfl⟩:=hx.at;obtain ⟨ya,yc,rfl⟩:=hy.at;have hsz22:=hg22.size;(try simp at hsz22);have hy22_0:g<w22.heap.size:=(by omega);have hy22_1:w21.heap.size<w22.heap.size:=(by omega);obtain ⟨hc22,hf22⟩:=hg22.cells;have HG22:=Lib.hid hg22;have HX:=Lib.hid hx;have HY:=Lib.hid hy;clear hx hy hg22)
   (try dsimp only)
   refine hK.out _ _ ?_ (fun hQ3=>?_)
   ·(first|exact trivial|((try dsimp only);simp [go_sem, *]))
   clear hK K hQ2
   try simp only [pS]
   refine rd 6 (fun K hK=>?_)
   go_simp
   (try dsimp only)
   refine hK.out _ _ ?_ (fun hQ4=>?_)
   ·(first|exact trivial|((try dsimp only);simp [go_sem, *]))
   clear hK K hQ3
   try simp only [pS]
   refine wpAnyH_done (by kernel_rfl) ?_ _
   go_wp2_with fail
   refine Met.intro ?_
   refine t10 H _ _ _ HZ hlZ HN hlN HA hlA HC hlC HPu HPv HPs HPt HW hww r0 r1 (F2.mk (x:= .slice xa g0.length xc) (y:= .slice ya g1.length yc) (by(with_reducible (repeat' (first|(refine VB.new' ?_;exact(by first|omega|(simp;done)|(simp;omega)))|apply VB.put2|apply VB.put3|apply VB.put5|refine VB.drew ?_|refine VB.far ?_ ?_ _|refine VB.alloc ?_ _|refine VB.gr ?_ HG22.out ?_|refine VB.gr ?_ HG21.out ?_|omega|(simp;done)|(simp;omega))))) ?_ ?_) (by exact .c HG22 (.c HG21 .z))
   ·exact SL.mono (SL.far (SL.far HX.out (by first|omega|(simp;done)|(simp;omega)) _) (by first|omega|(simp;done)|(simp;omega)) _) (Nat.zero_le _)
   ·exact SL.mono (SL.far (SL.far HY.out (by first|omega|(simp;done)|(simp;omega)) _) (by first|omega|(simp;done)|(simp;omega)) _) (Nat.zero_le _)
 ·go_simp
  have ha1_0:g<wq8.heap.size+1:=(by omega)
  have ha1_1:wq8.heap.size<wq8.heap.size+1:=(by omega)
  (try dsimp only)
  refine hK.out _ _ ?_ (fun hQ1=>?_)
  ·(first|exact trivial|((try dsimp only);simp [go_sem, *]))
  clear hK K hHeld
  try simp only [pS]
  refine wpAnyH_ready (rs:= [3]) (by kernel_rfl) (by simp) ?_
  refine AllReadyH.cons rfl (fun K hK=>?_) AllReadyH.nil
  go_simp
  (refine(H.hAuv u9 u10 _ (by exact HPu.out.gr (by exact .z)) (by exact HPv.out.gr (by exact .z))).mono ?_;rintro e w21 ⟨v21,rfl,hS21,hg21⟩;(try (with_reducible replace hg21:=Gr.of_drew hg21));have hsz21:=hg21.size;(try simp at hsz21);have hy21_0:g<w21.heap.size:=(by omega);have hy21_1:wq8.heap.size<w21.heap.size:=(by omega);obtain ⟨hc21,hf21⟩:=hg21.cells;have HG21:=Lib.hid hg21;clear hg21;have HS21:=Lib.hid hS21;clear hS21)
  (try dsimp only)
  refine hK.out _ _ ?_ (fun hQ2=>?_)
  ·(first|exact trivial|((try dsimp only);simp [go_sem, *]))
  clear hK K hQ1
  try simp only [pS]
  refine wpAnyH_ready (rs:= [4]) (by kernel_rfl) (by simp) ?_
  refine AllReadyH.cons rfl (fun K hK=>?_) AllReadyH.nil
  go_simp
  (refine(H.hF1 v21 _ (by exact(HS21.out.mono (Nat.zero_le _)).gr (by exact .z))).mono ?_;rintro e w22 ⟨x,y,rfl,hx,hy,hg22⟩;(try (with_reducible replace hg22:=Gr.of_drew hg22));obtain ⟨xa,xc,rfl⟩:=hx.at;obtain ⟨ya,yc,rfl⟩:=hy.at;have hsz22:=hg22.size;(try simp at hsz22);have hy22_0:g<w22.heap.size:=(by omega);have hy22_1:wq8.heap.size<w22.heap.size:=(by omega);obtain ⟨hc22,hf22⟩:=hg22.cells;have HG22:=Lib.hid hg22;have HX:=Lib.hid hx;have HY:=Lib.hid hy;clear hx hy hg22)
  (try dsimp only)
  refine hK.out _ _ ?_ (fun hQ3=>?_)
  ·(first|exact trivial|((try dsimp only);simp [go_sem, *]))
  clear hK K hQ2
  try simp only [pS]
  refine rd 6 (fun K hK=>?_)
  go_simp
  (try dsimp only)
  refine hK.out _ _ ?_ (fun hQ4=>?_)
  ·(first|exact trivial|((try dsimp only);simp [go_sem, *]))
  clear hK K hQ3
  try simp only [pS]
  refine wpAnyH_done (by kernel_rfl) ?_ _
  go_wp2_with fail
  refine Met.intro ?_
  refine t10 H _ _ _ HZ hlZ HN hlN HA hlA HC hlC HPu HPv HPs HPt HW hww r0 r1 (F2.mk (x:= .slice xa g0.length xc) (y:= .slice ya g1.length yc) (by(with_reducible (repeat' (first|(refine VB.new' ?_;exact(by first|omega|(simp;done)|(simp;omega)))|apply VB.put2|apply VB.put3|apply VB.put5|refine VB.drew ?_|refine VB.far ?_ ?_ _|refine VB.alloc ?_ _|refine VB.gr ?_ HG22.out ?_|refine VB.gr ?_ HG21.out ?_|omega|(simp;done)|(simp;omega))))) ?_ ?_) (by exact .c HG22 (.c HG21 .z))
  ·exact SL.mono (SL.far (SL.far HX.out (by first|omega|(simp;done)|(simp;omega)) _) (by first|omega|(simp;done)|(simp;omega)) _) (Nat.zero_le _)
  ·exact SL.mono (SL.far (SL.far HY.out (by first|omega|(simp;done)|(simp;omega)) _) (by first|omega|(simp;done)|(simp;omega)) _) (Nat.zero_le _)
set_option maxRecDepth 20000 in
set_option maxHeartbeats 8000000 in
theorem t8 (H:Hyp n0 n1 n2 n3 n d0 d1 d2 d3 d l0 l1 p0 p1 m0 m1 a b c q r u zz vv auv s su sz' ssz t g0 g1 h0 h1 i0 i1 cn f0 f1 lx ly sx sy pl pp e0 e1) (w wq6 wq7:World) {kb zb nb:Nat} {g:Nat} {cb:Nat} {u9:Value} {u10:Value} {u11:Value}
  (HZ:Hid (VB wq6 zb [.slice p0 l0.length m0,.slice p1 l1.length m1])) (hlZ:zb<wq6.heap.size) (HN:Hid (VB wq6 nb [.int .i64 n,.int .u32 d])) (hlN:nb<wq6.heap.size) (HA:Hid (VB wq6 g [.int .u64 (lowN (sz a.num)),.string (bigS (sz a.num)),.bool (ng a.num),.int .u64 (lowN (fm a)),.string (bigS (fm a)),.int .u64 (lowN (sz b.num)),.string (bigS (sz b.num)),.bool (ng b.num),.int .u64 (lowN (fm b)),.string (bigS (fm b)),.int .u64 (lowN (sz c.num)),.string (bigS (sz c.num)),.bool (ng c.num),.int .u64 (lowN (fm c)),.string (bigS (fm c))])) (hlA:g<wq6.heap.size) (HC:Hid (VB wq6 cb [.int .u64 (lowN (sz q.num)),.string (bigS (sz q.num)),.bool (ng q.num),.int .u64 (lowN (fm q)),.string (bigS (fm q))])) (hlC:cb<wq6.heap.size) (HPu:Hid (PL wq6 0 u9 u)) (HPv:Hid (PL wq6 0 u10 vv)) (HW:Hid (Gr w.heap.size w wq6)) (hww:w.heap.size≤wq6.heap.size) (r0:Hid (RS tqC 4 w (.slice p0 l0.length m0) l0)) (r1:Hid (RS tqC 4 w (.slice p1 l1.length m1) l1))
  (hPn:PL wq7 0 u11 s) (hgr:Gr wq6.heap.size wq6 wq7):
  Code.wp Tryz.prog (tl 8) (bodyPost Tryz.prog Tryz.f3 (Ret w (.bool true))) {tmps:= #[v0,v1,v2,.pointer (some ⟨kb,0,none⟩),.pointer (some ⟨zb,0,none⟩),.pointer (some ⟨nb,0,none⟩),v6,.pointer (some ⟨g,0,none⟩),.pointer (some ⟨cb,0,none⟩),u9,u10,u11,v12,v13,v14,v15,v16,v17,v18,v19,v20,v21,v22,v23,v24,v25,v26,v27,v28,v29,v30,v31,v32,v33,v34,v35,v36,v37,v38,v39,v40,v41,v42,v43,v44,v45,v46,v47,v48,v49,v50,v51,v52,v53,v54,v55,v56,v57,v58,v59,v60,v61,v62,v63,v64,v65,v66,v67,v68,v69,v70,v71,v72,v73,v74,v75,v76,v77,v78,v79,v80,v81,v82,v83,v84,v85,v86,v87,v88,v89,v90,v91,v92,v93,v94,v95,v96,v97,v98,v99,v100,v101,v102,v103,v104,v105,v106,v107,v108,v109,v110,v111,v112,v113,v114,v115,v116,v117,v118,v119,v120,v121,v122,v123,v124,v125,v126,v127,v128,v129,v130,v131,v132,v133,v134,v135,v136,v137,v138,v139,v140],defers:= []} wq7:=by
 have hsr:=hgr.size
 replace HZ:=Lib.hid (HZ.out.gr hgr hlZ)
 replace hlZ:zb<wq7.heap.size:=by omega
 replace HN:=Lib.hid (HN.out.gr hgr hlN)
 replace hlN:nb<wq7.heap.size:=by omega
 replace HA:=Lib.hid (HA.out.gr hgr hlA)
 replace hlA:g<wq7.heap.size:=by omega
 replace HC:=Lib.hid (HC.out.gr hgr hlC)
 replace hlC:cb<wq7.heap.size:=by omega
 replace HPu:=Lib.hid (HPu.out.gr hgr)
 replace HPv:=Lib.hid (HPv.out.gr hgr)
 replace HW:=Lib.hid (HW.out.trans (hgr.mono hww))
 replace hww:w.heap.size≤wq7.heap.size:=by omega
 have HPs:=Lib.hid hPn
 clear hgr hsr
 clear hPn
 refine wp_tail (fun K' hK'=>?_)
 obtain ⟨a_0,a_1,a_2,a_3,a_4,a_5,a_6,a_7,a_8,a_9,a_10,a_11,a_12,a_13,a_14⟩:=HA.out.all15
 have q_0:=HC.out.c 0 _ rfl
 have q_1:=HC.out.c 1 _ rfl
 have q_2:=HC.out.c 2 _ rfl
 have q_3:=HC.out.c 3 _ rfl
 have q_4:=HC.out.c 4 _ rfl
 have y0:=HZ.out.c 0 _ rfl
 have y1:=HZ.out.c 1 _ rfl
 have n_0:=HN.out.c 0 _ rfl
 have n_1:=HN.out.c 1 _ rfl
 refine wp_region_held_drew (S:=(fun w'=>w'.cell? ⟨g,0,none⟩=some (.int .u64 (lowN (sz a.num)))∧w'.cell? ⟨g,1,none⟩=some (.string (bigS (sz a.num)))∧w'.cell? ⟨g,2,none⟩=some (.bool (ng a.num))∧w'.cell? ⟨g,3,none⟩=some (.int .u64 (lowN (fm a)))∧w'.cell? ⟨g,4,none⟩=some (.string (bigS (fm a)))∧w'.cell? ⟨g,5,none⟩=some (.int .u64 (lowN (sz b.num)))∧w'.cell? ⟨g,6,none⟩=some (.string (bigS (sz b.num)))∧w'.cell? ⟨g,7,none⟩=some (.bool (ng b.num))∧w'.cell? ⟨g,8,none⟩=some (.int .u64 (lowN (fm b)))∧w'.cell? ⟨g,9,none⟩=some (.string (bigS (fm b)))∧w'.cell? ⟨g,10,none⟩=some (.int .u64 (lowN (sz c.num)))∧w'.cell? ⟨g,11,none⟩=some (.string (bigS (sz c.num)))∧w'.cell? ⟨g,12,none⟩=some (.bool (ng c.num))∧w'.cell? ⟨g,13,none⟩=some (.int .u64 (lowN (fm c)))∧w'.cell? ⟨g,14,none⟩=some (.string (bigS (fm c)))∧w'.cell? ⟨cb,0,none⟩=some (.int .u64 (lowN (sz q.num)))∧w'.cell? ⟨cb,1,none⟩=some (.string (bigS (sz q.num)))∧w'.cell? ⟨cb,2,none⟩=some (.bool (ng q.num))∧w'.cell? ⟨cb,3,none⟩=some (.int .u64 (lowN (fm q)))∧w'.cell? ⟨cb,4,none⟩=some (.string (bigS (fm q)))∧w'.cell? ⟨zb,0,none⟩=some (.slice p0 l0.length m0)∧w'.cell? ⟨zb,1,none⟩=some (.slice p1 l1.length m1)∧w'.cell? ⟨nb,0,none⟩=some (.int .i64 n)∧w'.cell? ⟨nb,1,none⟩=some (.int .u32 d))) (by kernel_rfl) ?_ (fun hHeld=>?_)
 ·simp [go_sem, *]
 refine tk 0 (some 57) (k3V a b c) ?_
 try simp only [pS]
 refine tk 1 (some 58) (fracV q) ?_
 try simp only [pS]
 refine tk 2 (some 59) (u9) ?_
 try simp only [pS]
 refine tk 4 (some 61) (k3V a b c) ?_
 try simp only [pS]
 refine tk 5 (some 62) (fracV q) ?_
 try simp only [pS]
 refine tk 6 (some 63) (.pointer (some ⟨zb,1,none⟩)) ?_
 try simp only [pS]
 refine tk 7 (some 64) (.slice p1 l1.length m1) ?_
 try simp only [pS]
 refine tk 10 (some 67) (qV n d) ?_
 try simp only [pS]
 refine rd 3 (fun K hK=>?_)
 go_simp
 (refine(H.hS2 u9 _ (by exact HPu.out.gr (by exact .z))).mono ?_;rintro e w11 ⟨v11,rfl,hS11,hg11⟩;(try (with_reducible replace hg11:=Gr.of_drew hg11));have hsz11:=hg11.size;(try simp at hsz11);have hy11_0:g<w11.heap.size:=(by omega);have hy11_1:cb<w11.heap.size:=(by omega);have hy11_2:zb<w11.heap.size:=(by omega);have hy11_3:nb<w11.heap.size:=(by omega);obtain ⟨hc11,hf11⟩:=hg11.cells;have HG11:=Lib.hid hg11;clear hg11;have HS11:=Lib.hid hS11;clear hS11)
 (try dsimp only)
 refine hK.out _ _ ?_ (fun hQ1=>?_)
 ·(first|exact trivial|((try dsimp only);simp [go_sem, *]))
 clear hK K hHeld
 try simp only [pS]
 refine rd 8 (fun K hK=>?_)
 go_simp
 (refine(H.hMz _ (r1.out.gr (by exact .c HG11 (.c HW .z)))).mono ?_;rintro e w12 ⟨v12,rfl,hS12,hg12⟩;(try (with_reducible replace hg12:=Gr.of_drew hg12));have hsz12:=hg12.size;(try simp at hsz12);have hy12_0:g<w12.heap.size:=(by omega);have hy12_1:cb<w12.heap.size:=(by omega);have hy12_2:zb<w12.heap.size:=(by omega);have hy12_3:nb<w12.heap.size:=(by omega);obtain ⟨hc12,hf12⟩:=hg12.cells;have HG12:=Lib.hid hg12;clear hg12;have HS12:=Lib.hid hS12;clear hS12)
 (try dsimp only)
 refine hK.out _ _ ?_ (fun hQ2=>?_)
 ·(first|exact trivial|((try dsimp only);simp [go_sem, *]))
 clear hK K hQ1
 try simp only [pS]
 refine rd 9 (fun K hK=>?_)
 go_simp
 (refine(H.hS3 v12 _ (by exact(HS12.out.mono (Nat.zero_le _)).gr (by exact .z))).mono ?_;rintro e w13 ⟨v13,rfl,hS13,hg13⟩;(try (with_reducible replace hg13:=Gr.of_drew hg13));have hsz13:=hg13.size;(try simp at hsz13);have hy13_0:g<w13.heap.size:=(by omega);have hy13_1:cb<w13.heap.size:=(by omega);have hy13_2:zb<w13.heap.size:=(by omega);have hy13_3:nb<w13.heap.size:=(by omega);obtain ⟨hc13,hf13⟩:=hg13.cells;have HG13:=Lib.hid hg13;clear hg13;have HS13:=Lib.hid hS13;clear hS13)
 (try dsimp only)
 refine hK.out _ _ ?_ (fun hQ3=>?_)
 ·(first|exact trivial|((try dsimp only);simp [go_sem, *]))
 clear hK K hQ2
 try simp only [pS]
 refine rd 11 (fun K hK=>?_)
 go_simp
 (refine(H.hn _).mono ?_;rintro e w14 ⟨rfl,hg14⟩;(try (with_reducible replace hg14:=Gr.of_drew hg14));have hsz14:=hg14.size;(try simp at hsz14);have hy14_0:g<w14.heap.size:=(by omega);have hy14_1:cb<w14.heap.size:=(by omega);have hy14_2:zb<w14.heap.size:=(by omega);have hy14_3:nb<w14.heap.size:=(by omega);obtain ⟨hc14,hf14⟩:=hg14.cells;have HG14:=Lib.hid hg14;clear hg14)
 (try dsimp only)
 refine hK.out _ _ ?_ (fun hQ4=>?_)
 ·(first|exact trivial|((try dsimp only);simp [go_sem, *]))
 clear hK K hQ3
 try simp only [pS]
 refine rd 12 (fun K hK=>?_)
 go_simp
 (refine(H.hSs v13 _ (by exact(HS13.out.mono (Nat.zero_le _)).gr (by exact .c HG14 .z))).mono ?_;rintro e w15 ⟨v15,rfl,hS15,hg15⟩;(try (with_reducible replace hg15:=Gr.of_drew hg15));have hsz15:=hg15.size;(try simp at hsz15);have hy15_0:g<w15.heap.size:=(by omega);have hy15_1:cb<w15.heap.size:=(by omega);have hy15_2:zb<w15.heap.size:=(by omega);have hy15_3:nb<w15.heap.size:=(by omega);obtain ⟨hc15,hf15⟩:=hg15.cells;have HG15:=Lib.hid hg15;clear hg15;have HS15:=Lib.hid hS15;clear hS15)
 (try dsimp only)
 refine hK.out _ _ ?_ (fun hQ5=>?_)
 ·(first|exact trivial|((try dsimp only);simp [go_sem, *]))
 clear hK K hQ4
 try simp only [pS]
 refine rd 13 (fun K hK=>?_)
 go_simp
 (refine(H.hAt v11 v15 _ (by exact(HS11.out.mono (Nat.zero_le _)).gr (by exact .c HG15 (.c HG14 (.c HG13 (.c HG12 .z))))) (by exact(HS15.out.mono (Nat.zero_le _)).gr (by exact .z))).mono ?_;rintro e w16 ⟨v16,rfl,hS16,hg16⟩;(try (with_reducible replace hg16:=Gr.of_drew hg16));have hsz16:=hg16.size;(try simp at hsz16);have hy16_0:g<w16.heap.size:=(by omega);have hy16_1:cb<w16.heap.size:=(by omega);have hy16_2:zb<w16.heap.size:=(by omega);have hy16_3:nb<w16.heap.size:=(by omega);obtain ⟨hc16,hf16⟩:=hg16.cells;have HG16:=Lib.hid hg16;clear hg16;have HS16:=Lib.hid hS16;clear hS16)
 (try dsimp only)
 refine hK.out _ _ ?_ (fun hQ6=>?_)
 ·(first|exact trivial|((try dsimp only);simp [go_sem, *]))
 clear hK K hQ5
 try simp only [pS]
 refine tk 14 (some 12) (v16) ?_
 try simp only [pS]
 refine wpAnyH_done (by kernel_rfl) ?_ _
 go_wp2_with fail
 refine Met.intro ?_
 exact t9 H _ _ _ HZ hlZ HN hlN HA hlA HC hlC HPu HPv HPs HW hww r0 r1 (HS16.out.mono (Nat.zero_le _)) (by exact .c HG16 (.c HG15 (.c HG14 (.c HG13 (.c HG12 (.c HG11 .z))))))
set_option maxRecDepth 20000 in
set_option maxHeartbeats 8000000 in
theorem t7 (H:Hyp n0 n1 n2 n3 n d0 d1 d2 d3 d l0 l1 p0 p1 m0 m1 a b c q r u zz vv auv s su sz' ssz t g0 g1 h0 h1 i0 i1 cn f0 f1 lx ly sx sy pl pp e0 e1) (w wq5 wq6:World) {kb zb nb:Nat} {g:Nat} {cb:Nat} {u9:Value} {u10:Value}
  (HZ:Hid (VB wq5 zb [.slice p0 l0.length m0,.slice p1 l1.length m1])) (hlZ:zb<wq5.heap.size) (HN:Hid (VB wq5 nb [.int .i64 n,.int .u32 d])) (hlN:nb<wq5.heap.size) (HA:Hid (VB wq5 g [.int .u64 (lowN (sz a.num)),.string (bigS (sz a.num)),.bool (ng a.num),.int .u64 (lowN (fm a)),.string (bigS (fm a)),.int .u64 (lowN (sz b.num)),.string (bigS (sz b.num)),.bool (ng b.num),.int .u64 (lowN (fm b)),.string (bigS (fm b)),.int .u64 (lowN (sz c.num)),.string (bigS (sz c.num)),.bool (ng c.num),.int .u64 (lowN (fm c)),.string (bigS (fm c))])) (hlA:g<wq5.heap.size) (HC:Hid (VB wq5 cb [.int .u64 (lowN (sz q.num)),.string (bigS (sz q.num)),.bool (ng q.num),.int .u64 (lowN (fm q)),.string (bigS (fm q))])) (hlC:cb<wq5.heap.size) (HPu:Hid (PL wq5 0 u9 u)) (HW:Hid (Gr w.heap.size w wq5)) (hww:w.heap.size≤wq5.heap.size) (r0:Hid (RS tqC 4 w (.slice p0 l0.length m0) l0)) (r1:Hid (RS tqC 4 w (.slice p1 l1.length m1) l1))
  (hPn:PL wq6 0 u10 vv) (hgr:Gr wq5.heap.size wq5 wq6):
  Code.wp Tryz.prog (tl 7) (bodyPost Tryz.prog Tryz.f3 (Ret w (.bool true))) {tmps:= #[v0,v1,v2,.pointer (some ⟨kb,0,none⟩),.pointer (some ⟨zb,0,none⟩),.pointer (some ⟨nb,0,none⟩),v6,.pointer (some ⟨g,0,none⟩),.pointer (some ⟨cb,0,none⟩),u9,u10,v11,v12,v13,v14,v15,v16,v17,v18,v19,v20,v21,v22,v23,v24,v25,v26,v27,v28,v29,v30,v31,v32,v33,v34,v35,v36,v37,v38,v39,v40,v41,v42,v43,v44,v45,v46,v47,v48,v49,v50,v51,v52,v53,v54,v55,v56,v57,v58,v59,v60,v61,v62,v63,v64,v65,v66,v67,v68,v69,v70,v71,v72,v73,v74,v75,v76,v77,v78,v79,v80,v81,v82,v83,v84,v85,v86,v87,v88,v89,v90,v91,v92,v93,v94,v95,v96,v97,v98,v99,v100,v101,v102,v103,v104,v105,v106,v107,v108,v109,v110,v111,v112,v113,v114,v115,v116,v117,v118,v119,v120,v121,v122,v123,v124,v125,v126,v127,v128,v129,v130,v131,v132,v133,v134,v135,v136,v137,v138,v139,v140],defers:= []} wq6:=by
 have hsr:=hgr.size
 replace HZ:=Lib.hid (HZ.out.gr hgr hlZ)
 replace hlZ:zb<wq6.heap.size:=by omega
 replace HN:=Lib.hid (HN.out.gr hgr hlN)
 replace hlN:nb<wq6.heap.size:=by omega
 replace HA:=Lib.hid (HA.out.gr hgr hlA)
 replace hlA:g<wq6.heap.size:=by omega
 replace HC:=Lib.hid (HC.out.gr hgr hlC)
 replace hlC:cb<wq6.heap.size:=by omega
 replace HPu:=Lib.hid (HPu.out.gr hgr)
 replace HW:=Lib.hid (HW.out.trans (hgr.mono hww))
 replace hww:w.heap.size≤wq6.heap.size:=by omega
 have HPv:=Lib.hid hPn
 clear hgr hsr
 clear hPn
 refine wp_tail (fun K' hK'=>?_)
 obtain ⟨a_0,a_1,a_2,a_3,a_4,a_5,a_6,a_7,a_8,a_9,a_10,a_11,a_12,a_13,a_14⟩:=HA.out.all15
 have q_0:=HC.out.c 0 _ rfl
 have q_1:=HC.out.c 1 _ rfl
 have q_2:=HC.out.c 2 _ rfl
 have q_3:=HC.out.c 3 _ rfl
 have q_4:=HC.out.c 4 _ rfl
 refine wp_region_held_drew (S:=(fun w'=>w'.cell? ⟨g,0,none⟩=some (.int .u64 (lowN (sz a.num)))∧w'.cell? ⟨g,1,none⟩=some (.string (bigS (sz a.num)))∧w'.cell? ⟨g,2,none⟩=some (.bool (ng a.num))∧w'.cell? ⟨g,3,none⟩=some (.int .u64 (lowN (fm a)))∧w'.cell? ⟨g,4,none⟩=some (.string (bigS (fm a)))∧w'.cell? ⟨g,5,none⟩=some (.int .u64 (lowN (sz b.num)))∧w'.cell? ⟨g,6,none⟩=some (.string (bigS (sz b.num)))∧w'.cell? ⟨g,7,none⟩=some (.bool (ng b.num))∧w'.cell? ⟨g,8,none⟩=some (.int .u64 (lowN (fm b)))∧w'.cell? ⟨g,9,none⟩=some (.string (bigS (fm b)))∧w'.cell? ⟨g,10,none⟩=some (.int .u64 (lowN (sz c.num)))∧w'.cell? ⟨g,11,none⟩=some (.string (bigS (sz c.num)))∧w'.cell? ⟨g,12,none⟩=some (.bool (ng c.num))∧w'.cell? ⟨g,13,none⟩=some (.int .u64 (lowN (fm c)))∧w'.cell? ⟨g,14,none⟩=some (.string (bigS (fm c)))∧w'.cell? ⟨cb,0,none⟩=some (.int .u64 (lowN (sz q.num)))∧w'.cell? ⟨cb,1,none⟩=some (.string (bigS (sz q.num)))∧w'.cell? ⟨cb,2,none⟩=some (.bool (ng q.num))∧w'.cell? ⟨cb,3,none⟩=some (.int .u64 (lowN (fm q)))∧w'.cell? ⟨cb,4,none⟩=some (.string (bigS (fm q))))) (by kernel_rfl) ?_ (fun hHeld=>?_)
 ·simp [go_sem, *]
 refine tk 0 (some 51) (k3V a b c) ?_
 try simp only [pS]
 refine tk 1 (some 52) (fracV q) ?_
 try simp only [pS]
 refine tk 2 (some 53) (u9) ?_
 try simp only [pS]
 refine tk 3 (some 54) (u10) ?_
 try simp only [pS]
 refine rd 4 (fun K hK=>?_)
 go_simp
 (refine(H.hAuv u9 u10 _ (by exact HPu.out.gr (by exact .z)) (by exact HPv.out.gr (by exact .z))).mono ?_;rintro e w9 ⟨v9,rfl,hS9,hg9⟩;(try (with_reducible replace hg9:=Gr.of_drew hg9));have hsz9:=hg9.size;(try simp at hsz9);have hy9_0:g<w9.heap.size:=(by omega);have hy9_1:cb<w9.heap.size:=(by omega);obtain ⟨hc9,hf9⟩:=hg9.cells;have HG9:=Lib.hid hg9;clear hg9;have HS9:=Lib.hid hS9;clear hS9)
 (try dsimp only)
 refine hK.out _ _ ?_ (fun hQ1=>?_)
 ·(first|exact trivial|((try dsimp only);simp [go_sem, *]))
 clear hK K hHeld
 try simp only [pS]
 refine rd 5 (fun K hK=>?_)
 go_simp
 (refine(H.hS1 v9 _ (by exact(HS9.out.mono (Nat.zero_le _)).gr (by exact .z))).mono ?_;rintro e w10 ⟨v10,rfl,hS10,hg10⟩;(try (with_reducible replace hg10:=Gr.of_drew hg10));have hsz10:=hg10.size;(try simp at hsz10);have hy10_0:g<w10.heap.size:=(by omega);have hy10_1:cb<w10.heap.size:=(by omega);obtain ⟨hc10,hf10⟩:=hg10.cells;have HG10:=Lib.hid hg10;clear hg10;have HS10:=Lib.hid hS10;clear hS10)
 (try dsimp only)
 refine hK.out _ _ ?_ (fun hQ2=>?_)
 ·(first|exact trivial|((try dsimp only);simp [go_sem, *]))
 clear hK K hQ1
 try simp only [pS]
 refine tk 6 (some 11) (v10) ?_
 try simp only [pS]
 refine wpAnyH_done (by kernel_rfl) ?_ _
 go_wp2_with fail
 refine Met.intro ?_
 exact t8 H _ _ _ HZ hlZ HN hlN HA hlA HC hlC HPu HPv HW hww r0 r1 (HS10.out.mono (Nat.zero_le _)) (by exact .c HG10 (.c HG9 .z))
set_option maxRecDepth 20000 in
set_option maxHeartbeats 8000000 in
theorem t6 (H:Hyp n0 n1 n2 n3 n d0 d1 d2 d3 d l0 l1 p0 p1 m0 m1 a b c q r u zz vv auv s su sz' ssz t g0 g1 h0 h1 i0 i1 cn f0 f1 lx ly sx sy pl pp e0 e1) (w wq4 wq5:World) {kb zb nb:Nat} {g:Nat} {cb:Nat} {u9:Value}
  (HZ:Hid (VB wq4 zb [.slice p0 l0.length m0,.slice p1 l1.length m1])) (hlZ:zb<wq4.heap.size) (HN:Hid (VB wq4 nb [.int .i64 n,.int .u32 d])) (hlN:nb<wq4.heap.size) (HA:Hid (VB wq4 g [.int .u64 (lowN (sz a.num)),.string (bigS (sz a.num)),.bool (ng a.num),.int .u64 (lowN (fm a)),.string (bigS (fm a)),.int .u64 (lowN (sz b.num)),.string (bigS (sz b.num)),.bool (ng b.num),.int .u64 (lowN (fm b)),.string (bigS (fm b)),.int .u64 (lowN (sz c.num)),.string (bigS (sz c.num)),.bool (ng c.num),.int .u64 (lowN (fm c)),.string (bigS (fm c))])) (hlA:g<wq4.heap.size) (HC:Hid (VB wq4 cb [.int .u64 (lowN (sz q.num)),.string (bigS (sz q.num)),.bool (ng q.num),.int .u64 (lowN (fm q)),.string (bigS (fm q))])) (hlC:cb<wq4.heap.size) (HW:Hid (Gr w.heap.size w wq4)) (hww:w.heap.size≤wq4.heap.size) (r0:Hid (RS tqC 4 w (.slice p0 l0.length m0) l0)) (r1:Hid (RS tqC 4 w (.slice p1 l1.length m1) l1))
  (hPu:PL wq5 0 u9 u) (hgr:Gr wq4.heap.size wq4 wq5):
  Code.wp Tryz.prog (tl 6) (bodyPost Tryz.prog Tryz.f3 (Ret w (.bool true))) {tmps:= #[v0,v1,v2,.pointer (some ⟨kb,0,none⟩),.pointer (some ⟨zb,0,none⟩),.pointer (some ⟨nb,0,none⟩),v6,.pointer (some ⟨g,0,none⟩),.pointer (some ⟨cb,0,none⟩),u9,v10,v11,v12,v13,v14,v15,v16,v17,v18,v19,v20,v21,v22,v23,v24,v25,v26,v27,v28,v29,v30,v31,v32,v33,v34,v35,v36,v37,v38,v39,v40,v41,v42,v43,v44,v45,v46,v47,v48,v49,v50,v51,v52,v53,v54,v55,v56,v57,v58,v59,v60,v61,v62,v63,v64,v65,v66,v67,v68,v69,v70,v71,v72,v73,v74,v75,v76,v77,v78,v79,v80,v81,v82,v83,v84,v85,v86,v87,v88,v89,v90,v91,v92,v93,v94,v95,v96,v97,v98,v99,v100,v101,v102,v103,v104,v105,v106,v107,v108,v109,v110,v111,v112,v113,v114,v115,v116,v117,v118,v119,v120,v121,v122,v123,v124,v125,v126,v127,v128,v129,v130,v131,v132,v133,v134,v135,v136,v137,v138,v139,v140],defers:= []} wq5:=by
 have hsr:=hgr.size
 replace HZ:=Lib.hid (HZ.out.gr hgr hlZ)
 replace hlZ:zb<wq5.heap.size:=by omega
 replace HN:=Lib.hid (HN.out.gr hgr hlN)
 replace hlN:nb<wq5.heap.size:=by omega
 replace HA:=Lib.hid (HA.out.gr hgr hlA)
 replace hlA:g<wq5.heap.size:=by omega
 replace HC:=Lib.hid (HC.out.gr hgr hlC)
 replace hlC:cb<wq5.heap.size:=by omega
 replace HW:=Lib.hid (HW.out.trans (hgr.mono hww))
 replace hww:w.heap.size≤wq5.heap.size:=by omega
 have HPu:=Lib.hid hPu
 clear hgr hsr
 clear hPu
 refine wp_tail (fun K' hK'=>?_)
 have y0:=HZ.out.c 0 _ rfl
 have y1:=HZ.out.c 1 _ rfl
 have n_0:=HN.out.c 0 _ rfl
 have n_1:=HN.out.c 1 _ rfl
 refine wp_region_held_drew (S:=(fun w'=>w'.cell? ⟨zb,0,none⟩=some (.slice p0 l0.length m0)∧w'.cell? ⟨zb,1,none⟩=some (.slice p1 l1.length m1)∧w'.cell? ⟨nb,0,none⟩=some (.int .i64 n)∧w'.cell? ⟨nb,1,none⟩=some (.int .u32 d))) (by kernel_rfl) ?_ (fun hHeld=>?_)
 ·simp [go_sem, *]
 refine tk 0 (some 45) (.pointer (some ⟨zb,1,none⟩)) ?_
 try simp only [pS]
 refine tk 1 (some 46) (.slice p1 l1.length m1) ?_
 try simp only [pS]
 refine tk 3 (some 48) (qV n d) ?_
 try simp only [pS]
 refine rd 2 (fun K hK=>?_)
 go_simp
 (refine(H.hMz _ (r1.out.gr (by exact .c HW .z))).mono ?_;rintro e w6 ⟨v6,rfl,hS6,hg6⟩;(try (with_reducible replace hg6:=Gr.of_drew hg6));have hsz6:=hg6.size;(try simp at hsz6);have hy6_0:zb<w6.heap.size:=(by omega);have hy6_1:nb<w6.heap.size:=(by omega);obtain ⟨hc6,hf6⟩:=hg6.cells;have HG6:=Lib.hid hg6;clear hg6;have HS6:=Lib.hid hS6;clear hS6)
 (try dsimp only)
 refine hK.out _ _ ?_ (fun hQ1=>?_)
 ·(first|exact trivial|((try dsimp only);simp [go_sem, *]))
 clear hK K hHeld
 try simp only [pS]
 refine rd 4 (fun K hK=>?_)
 go_simp
 (refine(H.hn _).mono ?_;rintro e w7 ⟨rfl,hg7⟩;(try (with_reducible replace hg7:=Gr.of_drew hg7));have hsz7:=hg7.size;(try simp at hsz7);have hy7_0:zb<w7.heap.size:=(by omega);have hy7_1:nb<w7.heap.size:=(by omega);obtain ⟨hc7,hf7⟩:=hg7.cells;have HG7:=Lib.hid hg7;clear hg7)
 (try dsimp only)
 refine hK.out _ _ ?_ (fun hQ2=>?_)
 ·(first|exact trivial|((try dsimp only);simp [go_sem, *]))
 clear hK K hQ1
 try simp only [pS]
 refine rd 5 (fun K hK=>?_)
 go_simp
 (refine(H.hSz v6 _ (by exact(HS6.out.mono (Nat.zero_le _)).gr (by exact .c HG7 .z))).mono ?_;rintro e w8 ⟨v8,rfl,hS8,hg8⟩;(try (with_reducible replace hg8:=Gr.of_drew hg8));have hsz8:=hg8.size;(try simp at hsz8);have hy8_0:zb<w8.heap.size:=(by omega);have hy8_1:nb<w8.heap.size:=(by omega);obtain ⟨hc8,hf8⟩:=hg8.cells;have HG8:=Lib.hid hg8;clear hg8;have HS8:=Lib.hid hS8;clear hS8)
 (try dsimp only)
 refine hK.out _ _ ?_ (fun hQ3=>?_)
 ·(first|exact trivial|((try dsimp only);simp [go_sem, *]))
 clear hK K hQ2
 try simp only [pS]
 refine tk 6 (some 10) (v8) ?_
 try simp only [pS]
 refine wpAnyH_done (by kernel_rfl) ?_ _
 go_wp2_with fail
 refine Met.intro ?_
 exact t7 H _ _ _ HZ hlZ HN hlN HA hlA HC hlC HPu HW hww r0 r1 (HS8.out.mono (Nat.zero_le _)) (by exact .c HG8 (.c HG7 (.c HG6 .z)))
set_option maxRecDepth 20000 in
set_option maxHeartbeats 8000000 in
theorem t5 (H:Hyp n0 n1 n2 n3 n d0 d1 d2 d3 d l0 l1 p0 p1 m0 m1 a b c q r u zz vv auv s su sz' ssz t g0 g1 h0 h1 i0 i1 cn f0 f1 lx ly sx sy pl pp e0 e1) (w wq3 wq4:World) {kb zb nb:Nat} {g:Nat} {cb:Nat}
  (HK:Hid (VB wq3 kb [.int .i64 n0,.int .u32 d0,.int .i64 n1,.int .u32 d1,.int .i64 n2,.int .u32 d2,.int .i64 n3,.int .u32 d3])) (hlK:kb<wq3.heap.size) (HZ:Hid (VB wq3 zb [.slice p0 l0.length m0,.slice p1 l1.length m1])) (hlZ:zb<wq3.heap.size) (HN:Hid (VB wq3 nb [.int .i64 n,.int .u32 d])) (hlN:nb<wq3.heap.size) (HA:Hid (VB wq3 g [.int .u64 (lowN (sz a.num)),.string (bigS (sz a.num)),.bool (ng a.num),.int .u64 (lowN (fm a)),.string (bigS (fm a)),.int .u64 (lowN (sz b.num)),.string (bigS (sz b.num)),.bool (ng b.num),.int .u64 (lowN (fm b)),.string (bigS (fm b)),.int .u64 (lowN (sz c.num)),.string (bigS (sz c.num)),.bool (ng c.num),.int .u64 (lowN (fm c)),.string (bigS (fm c))])) (hlA:g<wq3.heap.size) (HW:Hid (Gr w.heap.size w wq3)) (hww:w.heap.size≤wq3.heap.size) (r0:Hid (RS tqC 4 w (.slice p0 l0.length m0) l0)) (r1:Hid (RS tqC 4 w (.slice p1 l1.length m1) l1))
  (hV:VB wq4 cb [.int .u64 (lowN (sz q.num)),.string (bigS (sz q.num)),.bool (ng q.num),.int .u64 (lowN (fm q)),.string (bigS (fm q))]) (hgr:Gr wq3.heap.size wq3 wq4):
  Code.wp Tryz.prog (tl 5) (bodyPost Tryz.prog Tryz.f3 (Ret w (.bool true))) {tmps:= #[v0,v1,v2,.pointer (some ⟨kb,0,none⟩),.pointer (some ⟨zb,0,none⟩),.pointer (some ⟨nb,0,none⟩),v6,.pointer (some ⟨g,0,none⟩),.pointer (some ⟨cb,0,none⟩),v9,v10,v11,v12,v13,v14,v15,v16,v17,v18,v19,v20,v21,v22,v23,v24,v25,v26,v27,v28,v29,v30,v31,v32,v33,v34,v35,v36,v37,v38,v39,v40,v41,v42,v43,v44,v45,v46,v47,v48,v49,v50,v51,v52,v53,v54,v55,v56,v57,v58,v59,v60,v61,v62,v63,v64,v65,v66,v67,v68,v69,v70,v71,v72,v73,v74,v75,v76,v77,v78,v79,v80,v81,v82,v83,v84,v85,v86,v87,v88,v89,v90,v91,v92,v93,v94,v95,v96,v97,v98,v99,v100,v101,v102,v103,v104,v105,v106,v107,v108,v109,v110,v111,v112,v113,v114,v115,v116,v117,v118,v119,v120,v121,v122,v123,v124,v125,v126,v127,v128,v129,v130,v131,v132,v133,v134,v135,v136,v137,v138,v139,v140],defers:= []} wq4:=by
 have hsr:=hgr.size
 clear HK hlK
 replace HZ:=Lib.hid (HZ.out.gr hgr hlZ)
 replace hlZ:zb<wq4.heap.size:=by omega
 replace HN:=Lib.hid (HN.out.gr hgr hlN)
 replace hlN:nb<wq4.heap.size:=by omega
 replace HA:=Lib.hid (HA.out.gr hgr hlA)
 replace hlA:g<wq4.heap.size:=by omega
 replace HW:=Lib.hid (HW.out.trans (hgr.mono hww))
 replace hww:w.heap.size≤wq4.heap.size:=by omega
 have HC:=Lib.hid hV
 have hlC:=HC.out.lt
 clear hgr hsr
 clear hV
 refine wp_tail (fun K' hK'=>?_)
 have y0:=HZ.out.c 0 _ rfl
 have y1:=HZ.out.c 1 _ rfl
 go_wp2_with fail
 refine(H.hMu _ (r0.out.gr (by exact .c HW .z))).mono ?_
 rintro e w5 ⟨vu,rfl,hPu,hg5⟩
 have HG5:=Lib.hid hg5
 go_wp2_with fail
 refine Met.intro ?_
 exact t6 H _ _ _ HZ hlZ HN hlN HA hlA HC hlC HW hww r0 r1 (hPu.mono (Nat.zero_le _)) (by exact .c HG5 .z)
set_option maxRecDepth 20000 in
set_option maxHeartbeats 8000000 in
theorem t4 (H:Hyp n0 n1 n2 n3 n d0 d1 d2 d3 d l0 l1 p0 p1 m0 m1 a b c q r u zz vv auv s su sz' ssz t g0 g1 h0 h1 i0 i1 cn f0 f1 lx ly sx sy pl pp e0 e1) (w wa wq3:World) {kb zb nb:Nat} {g:Nat}
  (HK:Hid (VB wa kb [.int .i64 n0,.int .u32 d0,.int .i64 n1,.int .u32 d1,.int .i64 n2,.int .u32 d2,.int .i64 n3,.int .u32 d3])) (hlK:kb<wa.heap.size) (HZ:Hid (VB wa zb [.slice p0 l0.length m0,.slice p1 l1.length m1])) (hlZ:zb<wa.heap.size) (HN:Hid (VB wa nb [.int .i64 n,.int .u32 d])) (hlN:nb<wa.heap.size) (HW:Hid (Gr w.heap.size w wa)) (hww:w.heap.size≤wa.heap.size) (r0:Hid (RS tqC 4 w (.slice p0 l0.length m0) l0)) (r1:Hid (RS tqC 4 w (.slice p1 l1.length m1) l1))
  (hV:VB wq3 g [.int .u64 (lowN (sz a.num)),.string (bigS (sz a.num)),.bool (ng a.num),.int .u64 (lowN (fm a)),.string (bigS (fm a)),.int .u64 (lowN (sz b.num)),.string (bigS (sz b.num)),.bool (ng b.num),.int .u64 (lowN (fm b)),.string (bigS (fm b)),.int .u64 (lowN (sz c.num)),.string (bigS (sz c.num)),.bool (ng c.num),.int .u64 (lowN (fm c)),.string (bigS (fm c))]) (hgr:Gr wa.heap.size wa wq3):
  Code.wp Tryz.prog (tl 4) (bodyPost Tryz.prog Tryz.f3 (Ret w (.bool true))) {tmps:= #[v0,v1,v2,.pointer (some ⟨kb,0,none⟩),.pointer (some ⟨zb,0,none⟩),.pointer (some ⟨nb,0,none⟩),v6,.pointer (some ⟨g,0,none⟩),v8,v9,v10,v11,v12,v13,v14,v15,v16,v17,v18,v19,v20,v21,v22,v23,v24,v25,v26,v27,v28,v29,v30,v31,v32,v33,v34,v35,v36,v37,v38,v39,v40,v41,v42,v43,v44,v45,v46,v47,v48,v49,v50,v51,v52,v53,v54,v55,v56,v57,v58,v59,v60,v61,v62,v63,v64,v65,v66,v67,v68,v69,v70,v71,v72,v73,v74,v75,v76,v77,v78,v79,v80,v81,v82,v83,v84,v85,v86,v87,v88,v89,v90,v91,v92,v93,v94,v95,v96,v97,v98,v99,v100,v101,v102,v103,v104,v105,v106,v107,v108,v109,v110,v111,v112,v113,v114,v115,v116,v117,v118,v119,v120,v121,v122,v123,v124,v125,v126,v127,v128,v129,v130,v131,v132,v133,v134,v135,v136,v137,v138,v139,v140],defers:= []} wq3:=by
 have hsr:=hgr.size
 replace HK:=Lib.hid (HK.out.gr hgr hlK)
 replace hlK:kb<wq3.heap.size:=by omega
 replace HZ:=Lib.hid (HZ.out.gr hgr hlZ)
 replace hlZ:zb<wq3.heap.size:=by omega
 replace HN:=Lib.hid (HN.out.gr hgr hlN)
 replace hlN:nb<wq3.heap.size:=by omega
 replace HW:=Lib.hid (HW.out.trans (hgr.mono hww))
 replace hww:w.heap.size≤wq3.heap.size:=by omega
 have HA:=Lib.hid hV
 have hlA:=HA.out.lt
 clear hgr hsr
 clear hV
 refine wp_tail (fun K' hK'=>?_)
 have x0:=HK.out.c 0 _ rfl
 have x1:=HK.out.c 1 _ rfl
 have x2:=HK.out.c 2 _ rfl
 have x3:=HK.out.c 3 _ rfl
 have x4:=HK.out.c 4 _ rfl
 have x5:=HK.out.c 5 _ rfl
 have x6:=HK.out.c 6 _ rfl
 have x7:=HK.out.c 7 _ rfl
 go_wp2_with fail
 (refine(H.hq _).mono ?_;rintro e w4 ⟨rfl,hg4⟩;(try (with_reducible replace hg4:=Gr.of_drew hg4));have hsz4:=hg4.size;(try simp at hsz4);have hy4_0:kb<w4.heap.size:=(by omega);obtain ⟨hc4,hf4⟩:=hg4.cells;have HG4:=Lib.hid hg4;clear hg4)
 go_wp2_with fail
 refine Met.intro ?_
 exact t5 H _ _ _ HK hlK HZ hlZ HN hlN HA hlA HW hww r0 r1 (by(with_reducible (repeat' (first|(refine VB.new' ?_;exact(by first|omega|(simp;done)|(simp;omega)))|apply VB.put2|apply VB.put3|apply VB.put5|refine VB.drew ?_|refine VB.far ?_ ?_ _|refine VB.alloc ?_ _|refine VB.gr ?_ HG4.out ?_|omega|(simp;done)|(simp;omega))))) (by exact .c HG4 .z)
set_option maxRecDepth 20000 in
set_option maxHeartbeats 8000000 in
theorem law_short (n0 n1 n2 n3 n:Int) (d0 d1 d2 d3 d:Nat) (l0 l1:List TQ) (p0 p1:Option Addr) (m0 m1:Nat) (a b c q r:Rat) (u zz vv auv s su sz' ssz t g0 g1 h0 h1 i0 i1 cn f0 f1 lx ly sx sy pl pp e0 e1:List T) (k0:¬20<l0.length) (k1:¬20<l1.length)
  (ha:∀w,Calls Tryz.prog 5 #[qV n0 d0] w (Ret w (fracV a)))
  (hb:∀w,Calls Tryz.prog 5 #[qV n1 d1] w (Ret w (fracV b)))
  (hc:∀w,Calls Tryz.prog 5 #[qV n2 d2] w (Ret w (fracV c)))
  (hq:∀w,Calls Tryz.prog 5 #[qV n3 d3] w (Ret w (fracV q)))
  (hn:∀w,Calls Tryz.prog 5 #[qV n d] w (Ret w (fracV r)))
  (hMu:∀(W:World),RS tqC 4 W (.slice p0 l0.length m0) l0→Calls Tryz.prog 6 #[.slice p0 l0.length m0,.int .i64 8] W (RetP W u))
  (hMz:∀(W:World),RS tqC 4 W (.slice p1 l1.length m1) l1→Calls Tryz.prog 6 #[.slice p1 l1.length m1,.int .i64 8] W (RetP W zz))
  (hSz:Fn1 7 (fun v=> #[v,fracV r]) zz vv)
  (hAuv:Fn2 9 u vv auv)
  (hS1:Fn1 8 (fun v=> #[k3V a b c,fracV q,v]) auv s)
  (hS2:Fn1 8 (fun v=> #[k3V a b c,fracV q,v]) u su)
  (hS3:Fn1 8 (fun v=> #[k3V a b c,fracV q,v]) zz sz')
  (hSs:Fn1 7 (fun v=> #[v,fracV r]) sz' ssz)
  (hAt:Fn2 9 su ssz t)
  (hF1:∀(v:Value) (W:World),PL W 0 v auv→Calls Tryz.prog 10 #[k3V a b c,v] W (fun e w'=> ∃v1 v2,e= .returned (.agg #[v1,v2])∧PL w' W.heap.size v1 g0∧PL w' W.heap.size v2 g1∧Gr W.heap.size W w'))
  (hF2:∀(v:Value) (W:World),PL W 0 v u→Calls Tryz.prog 10 #[k3V a b c,v] W (fun e w'=> ∃v1 v2,e= .returned (.agg #[v1,v2])∧PL w' W.heap.size v1 h0∧PL w' W.heap.size v2 h1∧Gr W.heap.size W w'))
  (hF3:∀(v:Value) (W:World),PL W 0 v vv→Calls Tryz.prog 10 #[k3V a b c,v] W (fun e w'=> ∃v1 v2,e= .returned (.agg #[v1,v2])∧PL w' W.heap.size v1 i0∧PL w' W.heap.size v2 i1∧Gr W.heap.size W w'))
  (hCo:∀w,Calls Tryz.prog 11 #[fracV r] w (RetP w cn))
  (hF4:∀(v:Value) (W:World),PL W 0 v cn→Calls Tryz.prog 10 #[k3V a b c,v] W (fun e w'=> ∃v1 v2,e= .returned (.agg #[v1,v2])∧PL w' W.heap.size v1 f0∧PL w' W.heap.size v2 f1∧Gr W.heap.size W w'))
  (hX:∀w,Calls Tryz.prog 12 #[] w (RetP w lx))
  (hY:∀w,Calls Tryz.prog 13 #[] w (RetP w ly))
  (hSx:Fn1 7 (fun v=> #[v,fracV r]) lx sx)
  (hSy:Fn1 7 (fun v=> #[v,fracV q]) ly sy)
  (hAp:Fn2 9 sx sy pl)
  (hS4:Fn1 8 (fun v=> #[k3V a b c,.agg #[.int .u64 0,.string ⟨#[]⟩,.bool false,.int .u64 0,.string ⟨#[]⟩],v]) pl pp)
  (hE1:∀(v u:Value) (W:World),PL W 0 v s→PL W 0 u t→Calls Tryz.prog 14 #[v,u] W (Ret W (.bool true)))
  (hA3:Fn2 9 h0 i0 e0)
  (hE2:∀(v u:Value) (W:World),PL W 0 v g0→PL W 0 u e0→Calls Tryz.prog 14 #[v,u] W (Ret W (.bool true)))
  (hA4:Fn2 9 h1 i1 e1)
  (hE3:∀(v u:Value) (W:World),PL W 0 v g1→PL W 0 u e1→Calls Tryz.prog 14 #[v,u] W (Ret W (.bool true)))
  (hD1:∀(v:Value) (W:World),PL W 0 v f0→Calls Tryz.prog 15 #[v] W (Ret W (.int .i64 (-1))))
  (hD2:∀(v:Value) (W:World),PL W 0 v f1→Calls Tryz.prog 15 #[v] W (Ret W (.int .i64 (-1))))
  (hD3:∀(v:Value) (W:World),PL W 0 v pp→Calls Tryz.prog 15 #[v] W (Ret W (.int .i64 (-1))))
  (hL:∀w,Calls Tryz.prog 4 #[] w (Ret w (.bool true)))
  (w:World) (r0:RS tqC 4 w (.slice p0 l0.length m0) l0) (r1:RS tqC 4 w (.slice p1 l1.length m1) l1):
  Calls Tryz.prog 3 #[k4V n0 d0 n1 d1 n2 d2 n3 d3,.agg #[.slice p0 l0.length m0,.slice p1 l1.length m1],qV n d] w (Ret w (.bool true)):=by
 have H:Hyp n0 n1 n2 n3 n d0 d1 d2 d3 d l0 l1 p0 p1 m0 m1 a b c q r u zz vv auv s su sz' ssz t g0 g1 h0 h1 i0 i1 cn f0 f1 lx ly sx sy pl pp e0 e1:=⟨ha,hb,hc,hq,hn,hMu,hMz,hSz,hAuv,hS1,hS2,hS3,hSs,hAt,hF1,hF2,hF3,hCo,hF4,hX,hY,hSx,hSy,hAp,hS4,hE1,hA3,hE2,hA4,hE3,hD1,hD2,hD3,hL⟩
 have b0:decide ((20:Int)<(l0.length:Int))=false:=by simp;omega
 have b1:decide ((20:Int)<(l1.length:Int))=false:=by simp;omega
 clear k0 k1 ha hb hc hq hn hMu hMz hSz hAuv hS1 hS2 hS3 hSs hAt hF1 hF2 hF3 hCo hF4 hX hY hSx hSy hAp hS4 hE1 hA3 hE2 hA4 hE3 hD1 hD2 hD3 hL
 replace r0:=Lib.hid r0
 replace r1:=Lib.hid r1
 go_enter Tryz.func3,Tryz.ntmps3
 go_upto_region 3 with fail
 rename_i K0 hK0
 have HK:=Lib.hid (show VB (((w.alloc (.cells #[.int .i64 n0,.int .u32 d0,.int .i64 n1,.int .u32 d1,.int .i64 n2,.int .u32 d2,.int .i64 n3,.int .u32 d3] 25)).alloc (.cells #[.slice p0 l0.length m0,.slice p1 l1.length m1] 27)).alloc (.cells #[.int .i64 n,.int .u32 d] 24)) w.heap.size [.int .i64 n0,.int .u32 d0,.int .i64 n1,.int .u32 d1,.int .i64 n2,.int .u32 d2,.int .i64 n3,.int .u32 d3]from by(with_reducible (repeat' (first|(refine VB.new' ?_;exact(by first|omega|(simp;done)|(simp;omega)))|apply VB.put2|apply VB.put3|apply VB.put5|refine VB.drew ?_|refine VB.far ?_ ?_ _|refine VB.alloc ?_ _|omega|(simp;done)|(simp;omega)))))
 have HZ:=Lib.hid (show VB (((w.alloc (.cells #[.int .i64 n0,.int .u32 d0,.int .i64 n1,.int .u32 d1,.int .i64 n2,.int .u32 d2,.int .i64 n3,.int .u32 d3] 25)).alloc (.cells #[.slice p0 l0.length m0,.slice p1 l1.length m1] 27)).alloc (.cells #[.int .i64 n,.int .u32 d] 24)) (w.heap.size+1) [.slice p0 l0.length m0,.slice p1 l1.length m1]from by(with_reducible (repeat' (first|(refine VB.new' ?_;exact(by first|omega|(simp;done)|(simp;omega)))|apply VB.put2|apply VB.put3|apply VB.put5|refine VB.drew ?_|refine VB.far ?_ ?_ _|refine VB.alloc ?_ _|omega|(simp;done)|(simp;omega)))))
 have HN:=Lib.hid (show VB (((w.alloc (.cells #[.int .i64 n0,.int .u32 d0,.int .i64 n1,.int .u32 d1,.int .i64 n2,.int .u32 d2,.int .i64 n3,.int .u32 d3] 25)).alloc (.cells #[.slice p0 l0.length m0,.slice p1 l1.length m1] 27)).alloc (.cells #[.int .i64 n,.int .u32 d] 24)) (w.heap.size+1+1) [.int .i64 n,.int .u32 d]from by(with_reducible (repeat' (first|(refine VB.new' ?_;exact(by first|omega|(simp;done)|(simp;omega)))|apply VB.put2|apply VB.put3|apply VB.put5|refine VB.drew ?_|refine VB.far ?_ ?_ _|refine VB.alloc ?_ _|omega|(simp;done)|(simp;omega)))))
 have HW:=Lib.hid (show Gr w.heap.size w (((w.alloc (.cells #[.int .i64 n0,.int .u32 d0,.int .i64 n1,.int .u32 d1,.int .i64 n2,.int .u32 d2,.int .i64 n3,.int .u32 d3] 25)).alloc (.cells #[.slice p0 l0.length m0,.slice p1 l1.length m1] 27)).alloc (.cells #[.int .i64 n,.int .u32 d] 24))from by exact .z)
 have hs0:(((w.alloc (.cells #[.int .i64 n0,.int .u32 d0,.int .i64 n1,.int .u32 d1,.int .i64 n2,.int .u32 d2,.int .i64 n3,.int .u32 d3] 25)).alloc (.cells #[.slice p0 l0.length m0,.slice p1 l1.length m1] 27)).alloc (.cells #[.int .i64 n,.int .u32 d] 24)).heap.size=w.heap.size+1+1+1:=by simp
 generalize ((w.alloc (.cells #[.int .i64 n0,.int .u32 d0,.int .i64 n1,.int .u32 d1,.int .i64 n2,.int .u32 d2,.int .i64 n3,.int .u32 d3] 25)).alloc (.cells #[.slice p0 l0.length m0,.slice p1 l1.length m1] 27)).alloc (.cells #[.int .i64 n,.int .u32 d] 24)=wa at *
 have hww:w.heap.size≤wa.heap.size:=by omega
 have hlK:w.heap.size<wa.heap.size:=by omega
 have hlZ:w.heap.size+1<wa.heap.size:=by omega
 have hlN:w.heap.size+1+1<wa.heap.size:=by omega
 clear hs0
 refine wp_tail' hK0 (fun K' hK'=>?_)
 clear hK0
 have x0:=HK.out.c 0 _ rfl
 have x1:=HK.out.c 1 _ rfl
 have x2:=HK.out.c 2 _ rfl
 have x3:=HK.out.c 3 _ rfl
 have x4:=HK.out.c 4 _ rfl
 have x5:=HK.out.c 5 _ rfl
 have x6:=HK.out.c 6 _ rfl
 have x7:=HK.out.c 7 _ rfl
 refine wp_region_held_drew (S:=(fun w'=>w'.cell? ⟨w.heap.size,0,none⟩=some (.int .i64 n0)∧w'.cell? ⟨w.heap.size,1,none⟩=some (.int .u32 d0)∧w'.cell? ⟨w.heap.size,2,none⟩=some (.int .i64 n1)∧w'.cell? ⟨w.heap.size,3,none⟩=some (.int .u32 d1)∧w'.cell? ⟨w.heap.size,4,none⟩=some (.int .i64 n2)∧w'.cell? ⟨w.heap.size,5,none⟩=some (.int .u32 d2))) (by kernel_rfl) ?_ (fun hHeld=>?_)
 ·simp [go_sem, *]
 refine tk 0 (some 29) (.pointer (some ⟨w.heap.size,0,none⟩)) ?_
 try simp only [pS]
 refine tk 1 (some 30) (.agg #[.int .i64 n0,.int .u32 d0]) ?_
 try simp only [pS]
 refine tk 3 (some 32) (.pointer (some ⟨w.heap.size,2,none⟩)) ?_
 try simp only [pS]
 refine tk 4 (some 33) (.agg #[.int .i64 n1,.int .u32 d1]) ?_
 try simp only [pS]
 refine tk 6 (some 35) (.pointer (some ⟨w.heap.size,4,none⟩)) ?_
 try simp only [pS]
 refine tk 7 (some 36) (.agg #[.int .i64 n2,.int .u32 d2]) ?_
 try simp only [pS]
 refine wpAnyH_ready (rs:= [2,10]) (by kernel_rfl) (by simp) ?_
 refine AllReadyH.cons rfl (fun K hK=>?_) (AllReadyH.cons rfl (fun K hK=>?_) AllReadyH.nil)
 ·go_simp
  (refine(H.ha _).mono ?_;rintro e w1 ⟨rfl,hg1⟩;(try (with_reducible replace hg1:=Gr.of_drew hg1));have hsz1:=hg1.size;(try simp at hsz1);have hy1_0:w.heap.size<w1.heap.size:=(by omega);obtain ⟨hc1,hf1⟩:=hg1.cells;have HG1:=Lib.hid hg1;clear hg1)
  (try dsimp only)
  refine hK.out _ _ ?_ (fun hQ1=>?_)
  ·(first|exact trivial|((try dsimp only);simp [go_sem, *]))
  clear hK K hHeld
  try simp only [pS]
  refine wpAnyH_ready (rs:= [5,10]) (by kernel_rfl) (by simp) ?_
  refine AllReadyH.cons rfl (fun K hK=>?_) (AllReadyH.cons rfl (fun K hK=>?_) AllReadyH.nil)
  ·go_simp
   (refine(H.hb _).mono ?_;rintro e w2 ⟨rfl,hg2⟩;(try (with_reducible replace hg2:=Gr.of_drew hg2));have hsz2:=hg2.size;(try simp at hsz2);have hy2_0:w.heap.size<w2.heap.size:=(by omega);obtain ⟨hc2,hf2⟩:=hg2.cells;have HG2:=Lib.hid hg2;clear hg2)
   (try dsimp only)
   refine hK.out _ _ ?_ (fun hQ2=>?_)
   ·(first|exact trivial|((try dsimp only);simp [go_sem, *]))
   clear hK K hQ1
   try simp only [pS]
   refine wpAnyH_ready (rs:= [8,10]) (by kernel_rfl) (by simp) ?_
   refine AllReadyH.cons rfl (fun K hK=>?_) (AllReadyH.cons rfl (fun K hK=>?_) AllReadyH.nil)
   ·go_simp
    (refine(H.hc _).mono ?_;rintro e w3 ⟨rfl,hg3⟩;(try (with_reducible replace hg3:=Gr.of_drew hg3));have hsz3:=hg3.size;(try simp at hsz3);have hy3_0:w.heap.size<w3.heap.size:=(by omega);obtain ⟨hc3,hf3⟩:=hg3.cells;have HG3:=Lib.hid hg3;clear hg3)
    (try dsimp only)
    refine hK.out _ _ ?_ (fun hQ3=>?_)
    ·(first|exact trivial|((try dsimp only);simp [go_sem, *]))
    clear hK K hQ2
    try simp only [pS]
    refine tk 9 (some 38) (k3V a b c) ?_
    try simp only [pS]
    refine wpAnyH_ready (rs:= [10]) (by kernel_rfl) (by simp) ?_
    refine AllReadyH.cons rfl (fun K hK=>?_) AllReadyH.nil
    go_simp
    have ha4_0:w.heap.size<w3.heap.size+1:=(by omega)
    have ha4_1:w3.heap.size<w3.heap.size+1:=(by omega)
    (try dsimp only)
    refine hK.out _ _ ?_ (fun hQ4=>?_)
    ·(first|exact trivial|((try dsimp only);simp [go_sem, *]))
    clear hK K hQ3
    try simp only [pS]
    refine wpAnyH_ready (rs:= [11]) (by kernel_rfl) (by simp) ?_
    refine AllReadyH.cons (o:=⟨none,_,_,_,_,_⟩) rfl (fun K hK=>?_) AllReadyH.nil
    rw [if_pos (by rfl)]
    refine wp_store_mid 39 _ _ rfl (w3.heap.size) 0 (List.toArray [.int .u64 (lowN (sz a.num)),.string (bigS (sz a.num)),.bool (ng a.num),.int .u64 (lowN (fm a)),.string (bigS (fm a)),.int .u64 (lowN (sz b.num)),.string (bigS (sz b.num)),.bool (ng b.num),.int .u64 (lowN (fm b)),.string (bigS (fm b)),.int .u64 (lowN (sz c.num)),.string (bigS (sz c.num)),.bool (ng c.num),.int .u64 (lowN (fm c)),.string (bigS (fm c))]) rfl rfl (VB.there (cs:= [.int .u64 0,.string ⟨#[]⟩,.bool false,.int .u64 0,.string ⟨#[]⟩,.int .u64 0,.string ⟨#[]⟩,.bool false,.int .u64 0,.string ⟨#[]⟩,.int .u64 0,.string ⟨#[]⟩,.bool false,.int .u64 0,.string ⟨#[]⟩]) ?_) info_F3 (by first|rfl|simp [Value.oneCell']) ?_
    ·(with_reducible (repeat' (first|(refine VB.new' ?_;exact(by first|omega|(simp;done)|(simp;omega)))|apply VB.put2|apply VB.put3|apply VB.put5|refine VB.drew ?_|refine VB.far ?_ ?_ _|refine VB.alloc ?_ _|refine VB.gr ?_ HG3.out ?_|refine VB.gr ?_ HG2.out ?_|refine VB.gr ?_ HG1.out ?_|omega|(simp;done)|(simp;omega))))
    simp only [pS]
    refine hK.out _ _ ?_ (fun hQ5=>?_)
    ·have hh:=hQ4;(try dsimp only at hh ⊢);simp only [cell_sets_ne (show w.heap.size≠w3.heap.size by omega)];exact hh
    clear hK K hQ4
    refine wpAnyH_done (by kernel_rfl) ?_ _
    go_wp2_with fail
    refine Met.intro ?_
    refine t4 H _ _ _ HK hlK HZ hlZ HN hlN HW hww r0 r1 (VB.set (cs:= [.int .u64 0,.string ⟨#[]⟩,.bool false,.int .u64 0,.string ⟨#[]⟩,.int .u64 0,.string ⟨#[]⟩,.bool false,.int .u64 0,.string ⟨#[]⟩,.int .u64 0,.string ⟨#[]⟩,.bool false,.int .u64 0,.string ⟨#[]⟩]) ?_ [.int .u64 (lowN (sz a.num)),.string (bigS (sz a.num)),.bool (ng a.num),.int .u64 (lowN (fm a)),.string (bigS (fm a)),.int .u64 (lowN (sz b.num)),.string (bigS (sz b.num)),.bool (ng b.num),.int .u64 (lowN (fm b)),.string (bigS (fm b)),.int .u64 (lowN (sz c.num)),.string (bigS (sz c.num)),.bool (ng c.num),.int .u64 (lowN (fm c)),.string (bigS (fm c))] rfl) (Gr.sets (by omega) _ _ (by exact .c HG3 (.c HG2 (.c HG1 .z))))
    (with_reducible (repeat' (first|(refine VB.new' ?_;exact(by first|omega|(simp;done)|(simp;omega)))|apply VB.put2|apply VB.put3|apply VB.put5|refine VB.drew ?_|refine VB.far ?_ ?_ _|refine VB.alloc ?_ _|refine VB.gr ?_ HG3.out ?_|refine VB.gr ?_ HG2.out ?_|refine VB.gr ?_ HG1.out ?_|omega|(simp;done)|(simp;omega))))
   ·go_simp
    have ha3_0:w.heap.size<w2.heap.size+1:=(by omega)
    have ha3_1:w2.heap.size<w2.heap.size+1:=(by omega)
    (try dsimp only)
    refine hK.out _ _ ?_ (fun hQ3=>?_)
    ·(first|exact trivial|((try dsimp only);simp [go_sem, *]))
    clear hK K hQ2
    try simp only [pS]
    refine wpAnyH_ready (rs:= [8]) (by kernel_rfl) (by simp) ?_
    refine AllReadyH.cons rfl (fun K hK=>?_) AllReadyH.nil
    go_simp
    (refine(H.hc _).mono ?_;rintro e w3 ⟨rfl,hg3⟩;(try (with_reducible replace hg3:=Gr.of_drew hg3));have hsz3:=hg3.size;(try simp at hsz3);have hy3_0:w.heap.size<w3.heap.size:=(by omega);have hy3_1:w2.heap.size<w3.heap.size:=(by omega);obtain ⟨hc3,hf3⟩:=hg3.cells;have HG3:=Lib.hid hg3;clear hg3)
    (try dsimp only)
    refine hK.out _ _ ?_ (fun hQ4=>?_)
    ·(first|exact trivial|((try dsimp only);simp [go_sem, *]))
    clear hK K hQ3
    try simp only [pS]
    refine tk 9 (some 38) (k3V a b c) ?_
    try simp only [pS]
    refine wpAnyH_ready (rs:= [11]) (by kernel_rfl) (by simp) ?_
    refine AllReadyH.cons (o:=⟨none,_,_,_,_,_⟩) rfl (fun K hK=>?_) AllReadyH.nil
    rw [if_pos (by rfl)]
    refine wp_store_mid 39 _ _ rfl (w2.heap.size) 0 (List.toArray [.int .u64 (lowN (sz a.num)),.string (bigS (sz a.num)),.bool (ng a.num),.int .u64 (lowN (fm a)),.string (bigS (fm a)),.int .u64 (lowN (sz b.num)),.string (bigS (sz b.num)),.bool (ng b.num),.int .u64 (lowN (fm b)),.string (bigS (fm b)),.int .u64 (lowN (sz c.num)),.string (bigS (sz c.num)),.bool (ng c.num),.int .u64 (lowN (fm c)),.string (bigS (fm c))]) rfl rfl (VB.there (cs:= [.int .u64 0,.string ⟨#[]⟩,.bool false,.int .u64 0,.string ⟨#[]⟩,.int .u64 0,.string ⟨#[]⟩,.bool false,.int .u64 0,.string ⟨#[]⟩,.int .u64 0,.string ⟨#[]⟩,.bool false,.int .u64 0,.string ⟨#[]⟩]) ?_) info_F3 (by first|rfl|simp [Value.oneCell']) ?_
    ·(with_reducible (repeat' (first|(refine VB.new' ?_;exact(by first|omega|(simp;done)|(simp;omega)))|apply VB.put2|apply VB.put3|apply VB.put5|refine VB.drew ?_|refine VB.far ?_ ?_ _|refine VB.alloc ?_ _|refine VB.gr ?_ HG3.out ?_|refine VB.gr ?_ HG2.out ?_|refine VB.gr ?_ HG1.out ?_|omega|(simp;done)|(simp;omega))))
    simp only [pS]
    refine hK.out _ _ ?_ (fun hQ5=>?_)
    ·have hh:=hQ4;(try dsimp only at hh ⊢);simp only [cell_sets_ne (show w.heap.size≠w2.heap.size by omega)];exact hh
    clear hK K hQ4
    refine wpAnyH_done (by kernel_rfl) ?_ _
    go_wp2_with fail
    refine Met.intro ?_
    refine t4 H _ _ _ HK hlK HZ hlZ HN hlN HW hww r0 r1 (VB.set (cs:= [.int .u64 0,.string ⟨#[]⟩,.bool false,.int .u64 0,.string ⟨#[]⟩,.int .u64 0,.string ⟨#[]⟩,.bool false,.int .u64 0,.string ⟨#[]⟩,.int .u64 0,.string ⟨#[]⟩,.bool false,.int .u64 0,.string ⟨#[]⟩]) ?_ [.int .u64 (lowN (sz a.num)),.string (bigS (sz a.num)),.bool (ng a.num),.int .u64 (lowN (fm a)),.string (bigS (fm a)),.int .u64 (lowN (sz b.num)),.string (bigS (sz b.num)),.bool (ng b.num),.int .u64 (lowN (fm b)),.string (bigS (fm b)),.int .u64 (lowN (sz c.num)),.string (bigS (sz c.num)),.bool (ng c.num),.int .u64 (lowN (fm c)),.string (bigS (fm c))] rfl) (Gr.sets (by omega) _ _ (by exact .c HG3 (.c HG2 (.c HG1 .z))))
    (with_reducible (repeat' (first|(refine VB.new' ?_;exact(by first|omega|(simp;done)|(simp;omega)))|apply VB.put2|apply VB.put3|apply VB.put5|refine VB.drew ?_|refine VB.far ?_ ?_ _|refine VB.alloc ?_ _|refine VB.gr ?_ HG3.out ?_|refine VB.gr ?_ HG2.out ?_|refine VB.gr ?_ HG1.out ?_|omega|(simp;done)|(simp;omega))))
  ·go_simp
   have ha2_0:w.heap.size<w1.heap.size+1:=(by omega)
   have ha2_1:w1.heap.size<w1.heap.size+1:=(by omega)
   (try dsimp only)
   refine hK.out _ _ ?_ (fun hQ2=>?_)
   ·(first|exact trivial|((try dsimp only);simp [go_sem, *]))
   clear hK K hQ1
   try simp only [pS]
   refine wpAnyH_ready (rs:= [5]) (by kernel_rfl) (by simp) ?_
   refine AllReadyH.cons rfl (fun K hK=>?_) AllReadyH.nil
   go_simp
   (refine(H.hb _).mono ?_;rintro e w2 ⟨rfl,hg2⟩;(try (with_reducible replace hg2:=Gr.of_drew hg2));have hsz2:=hg2.size;(try simp at hsz2);have hy2_0:w.heap.size<w2.heap.size:=(by omega);have hy2_1:w1.heap.size<w2.heap.size:=(by omega);obtain ⟨hc2,hf2⟩:=hg2.cells;have HG2:=Lib.hid hg2;clear hg2)
   (try dsimp only)
   refine hK.out _ _ ?_ (fun hQ3=>?_)
   ·(first|exact trivial|((try dsimp only);simp [go_sem, *]))
   clear hK K hQ2
   try simp only [pS]
   refine wpAnyH_ready (rs:= [8]) (by kernel_rfl) (by simp) ?_
   refine AllReadyH.cons rfl (fun K hK=>?_) AllReadyH.nil
   go_simp
   (refine(H.hc _).mono ?_;rintro e w3 ⟨rfl,hg3⟩;(try (with_reducible replace hg3:=Gr.of_drew hg3));have hsz3:=hg3.size;(try simp at hsz3);have hy3_0:w.heap.size<w3.heap.size:=(by omega);have hy3_1:w1.heap.size<w3.heap.size:=(by omega);obtain ⟨hc3,hf3⟩:=hg3.cells;have HG3:=Lib.hid hg3;clear hg3)
   (try dsimp only)
   refine hK.out _ _ ?_ (fun hQ4=>?_)
   ·(first|exact trivial|((try dsimp only);simp [go_sem, *]))
   clear hK K hQ3
   try simp only [pS]
   refine tk 9 (some 38) (k3V a b c) ?_
   try simp only [pS]
   refine wpAnyH_ready (rs:= [11]) (by kernel_rfl) (by simp) ?_
   refine AllReadyH.cons (o:=⟨none,_,_,_,_,_⟩) rfl (fun K hK=>?_) AllReadyH.nil
   rw [if_pos (by rfl)]
   refine wp_store_mid 39 _ _ rfl (w1.heap.size) 0 (List.toArray [.int .u64 (lowN (sz a.num)),.string (bigS (sz a.num)),.bool (ng a.num),.int .u64 (lowN (fm a)),.string (bigS (fm a)),.int .u64 (lowN (sz b.num)),.string (bigS (sz b.num)),.bool (ng b.num),.int .u64 (lowN (fm b)),.string (bigS (fm b)),.int .u64 (lowN (sz c.num)),.string (bigS (sz c.num)),.bool (ng c.num),.int .u64 (lowN (fm c)),.string (bigS (fm c))]) rfl rfl (VB.there (cs:= [.int .u64 0,.string ⟨#[]⟩,.bool false,.int .u64 0,.string ⟨#[]⟩,.int .u64 0,.string ⟨#[]⟩,.bool false,.int .u64 0,.string ⟨#[]⟩,.int .u64 0,.string ⟨#[]⟩,.bool false,.int .u64 0,.string ⟨#[]⟩]) ?_) info_F3 (by first|rfl|simp [Value.oneCell']) ?_
   ·(with_reducible (repeat' (first|(refine VB.new' ?_;exact(by first|omega|(simp;done)|(simp;omega)))|apply VB.put2|apply VB.put3|apply VB.put5|refine VB.drew ?_|refine VB.far ?_ ?_ _|refine VB.alloc ?_ _|refine VB.gr ?_ HG3.out ?_|refine VB.gr ?_ HG2.out ?_|refine VB.gr ?_ HG1.out ?_|omega|(simp;done)|(simp;omega))))
   simp only [pS]
   refine hK.out _ _ ?_ (fun hQ5=>?_)
   ·have hh:=hQ4;(try dsimp only at hh ⊢);simp only [cell_sets_ne (show w.heap.size≠w1.heap.size by omega)];exact hh
   clear hK K hQ4
   refine wpAnyH_done (by kernel_rfl) ?_ _
   go_wp2_with fail
   refine Met.intro ?_
   refine t4 H _ _ _ HK hlK HZ hlZ HN hlN HW hww r0 r1 (VB.set (cs:= [.int .u64 0,.string ⟨#[]⟩,.bool false,.int .u64 0,.string ⟨#[]⟩,.int .u64 0,.string ⟨#[]⟩,.bool false,.int .u64 0,.string ⟨#[]⟩,.int .u64 0,.string ⟨#[]⟩,.bool false,.int .u64 0,.string ⟨#[]⟩]) ?_ [.int .u64 (lowN (sz a.num)),.string (bigS (sz a.num)),.bool (ng a.num),.int .u64 (lowN (fm a)),.string (bigS (fm a)),.int .u64 (lowN (sz b.num)),.string (bigS (sz b.num)),.bool (ng b.num),.int .u64 (lowN (fm b)),.string (bigS (fm b)),.int .u64 (lowN (sz c.num)),.string (bigS (sz c.num)),.bool (ng c.num),.int .u64 (lowN (fm c)),.string (bigS (fm c))] rfl) (Gr.sets (by omega) _ _ (by exact .c HG3 (.c HG2 (.c HG1 .z))))
   (with_reducible (repeat' (first|(refine VB.new' ?_;exact(by first|omega|(simp;done)|(simp;omega)))|apply VB.put2|apply VB.put3|apply VB.put5|refine VB.drew ?_|refine VB.far ?_ ?_ _|refine VB.alloc ?_ _|refine VB.gr ?_ HG3.out ?_|refine VB.gr ?_ HG2.out ?_|refine VB.gr ?_ HG1.out ?_|omega|(simp;done)|(simp;omega))))
 ·go_simp
  have ha1_0:w.heap.size<wa.heap.size+1:=(by omega)
  have ha1_1:wa.heap.size<wa.heap.size+1:=(by omega)
  (try dsimp only)
  refine hK.out _ _ ?_ (fun hQ1=>?_)
  ·(first|exact trivial|((try dsimp only);simp [go_sem, *]))
  clear hK K hHeld
  try simp only [pS]
  refine wpAnyH_ready (rs:= [2]) (by kernel_rfl) (by simp) ?_
  refine AllReadyH.cons rfl (fun K hK=>?_) AllReadyH.nil
  go_simp
  (refine(H.ha _).mono ?_;rintro e w1 ⟨rfl,hg1⟩;(try (with_reducible replace hg1:=Gr.of_drew hg1));have hsz1:=hg1.size;(try simp at hsz1);have hy1_0:w.heap.size<w1.heap.size:=(by omega);have hy1_1:wa.heap.size<w1.heap.size:=(by omega);obtain ⟨hc1,hf1⟩:=hg1.cells;have HG1:=Lib.hid hg1;clear hg1)
  (try dsimp only)
  refine hK.out _ _ ?_ (fun hQ2=>?_)
  ·(first|exact trivial|((try dsimp only);simp [go_sem, *]))
  clear hK K hQ1
  try simp only [pS]
  refine wpAnyH_ready (rs:= [5]) (by kernel_rfl) (by simp) ?_
  refine AllReadyH.cons rfl (fun K hK=>?_) AllReadyH.nil
  go_simp
  (refine(H.hb _).mono ?_;rintro e w2 ⟨rfl,hg2⟩;(try (with_reducible replace hg2:=Gr.of_drew hg2));have hsz2:=hg2.size;(try simp at hsz2);have hy2_0:w.heap.size<w2.heap.size:=(by omega);have hy2_1:wa.heap.size<w2.heap.size:=(by omega);obtain ⟨hc2,hf2⟩:=hg2.cells;have HG2:=Lib.hid hg2;clear hg2)
  (try dsimp only)
  refine hK.out _ _ ?_ (fun hQ3=>?_)
  ·(first|exact trivial|((try dsimp only);simp [go_sem, *]))
  clear hK K hQ2
  try simp only [pS]
  refine wpAnyH_ready (rs:= [8]) (by kernel_rfl) (by simp) ?_
  refine AllReadyH.cons rfl (fun K hK=>?_) AllReadyH.nil
  go_simp
  (refine(H.hc _).mono ?_;rintro e w3 ⟨rfl,hg3⟩;(try (with_reducible replace hg3:=Gr.of_drew hg3));have hsz3:=hg3.size;(try simp at hsz3);have hy3_0:w.heap.size<w3.heap.size:=(by omega);have hy3_1:wa.heap.size<w3.heap.size:=(by omega);obtain ⟨hc3,hf3⟩:=hg3.cells;have HG3:=Lib.hid hg3;clear hg3)
  (try dsimp only)
  refine hK.out _ _ ?_ (fun hQ4=>?_)
  ·(first|exact trivial|((try dsimp only);simp [go_sem, *]))
  clear hK K hQ3
  try simp only [pS]
  refine tk 9 (some 38) (k3V a b c) ?_
  try simp only [pS]
  refine wpAnyH_ready (rs:= [11]) (by kernel_rfl) (by simp) ?_
  refine AllReadyH.cons (o:=⟨none,_,_,_,_,_⟩) rfl (fun K hK=>?_) AllReadyH.nil
  rw [if_pos (by rfl)]
  refine wp_store_mid 39 _ _ rfl (wa.heap.size) 0 (List.toArray [.int .u64 (lowN (sz a.num)),.string (bigS (sz a.num)),.bool (ng a.num),.int .u64 (lowN (fm a)),.string (bigS (fm a)),.int .u64 (lowN (sz b.num)),.string (bigS (sz b.num)),.bool (ng b.num),.int .u64 (lowN (fm b)),.string (bigS (fm b)),.int .u64 (lowN (sz c.num)),.string (bigS (sz c.num)),.bool (ng c.num),.int .u64 (lowN (fm c)),.string (bigS (fm c))]) rfl rfl (VB.there (cs:= [.int .u64 0,.string ⟨#[]⟩,.bool false,.int .u64 0,.string ⟨#[]⟩,.int .u64 0,.string ⟨#[]⟩,.bool false,.int .u64 0,.string ⟨#[]⟩,.int .u64 0,.string ⟨#[]⟩,.bool false,.int .u64 0,.string ⟨#[]⟩]) ?_) info_F3 (by first|rfl|simp [Value.oneCell']) ?_
  ·(with_reducible (repeat' (first|(refine VB.new' ?_;exact(by first|omega|(simp;done)|(simp;omega)))|apply VB.put2|apply VB.put3|apply VB.put5|refine VB.drew ?_|refine VB.far ?_ ?_ _|refine VB.alloc ?_ _|refine VB.gr ?_ HG3.out ?_|refine VB.gr ?_ HG2.out ?_|refine VB.gr ?_ HG1.out ?_|omega|(simp;done)|(simp;omega))))
  simp only [pS]
  refine hK.out _ _ ?_ (fun hQ5=>?_)
  ·have hh:=hQ4;(try dsimp only at hh ⊢);simp only [cell_sets_ne (show w.heap.size≠wa.heap.size by omega)];exact hh
  clear hK K hQ4
  refine wpAnyH_done (by kernel_rfl) ?_ _
  go_wp2_with fail
  refine Met.intro ?_
  refine t4 H _ _ _ HK hlK HZ hlZ HN hlN HW hww r0 r1 (VB.set (cs:= [.int .u64 0,.string ⟨#[]⟩,.bool false,.int .u64 0,.string ⟨#[]⟩,.int .u64 0,.string ⟨#[]⟩,.bool false,.int .u64 0,.string ⟨#[]⟩,.int .u64 0,.string ⟨#[]⟩,.bool false,.int .u64 0,.string ⟨#[]⟩]) ?_ [.int .u64 (lowN (sz a.num)),.string (bigS (sz a.num)),.bool (ng a.num),.int .u64 (lowN (fm a)),.string (bigS (fm a)),.int .u64 (lowN (sz b.num)),.string (bigS (sz b.num)),.bool (ng b.num),.int .u64 (lowN (fm b)),.string (bigS (fm b)),.int .u64 (lowN (sz c.num)),.string (bigS (sz c.num)),.bool (ng c.num),.int .u64 (lowN (fm c)),.string (bigS (fm c))] rfl) (Gr.sets (by omega) _ _ (by exact .c HG3 (.c HG2 (.c HG1 .z))))
  (with_reducible (repeat' (first|(refine VB.new' ?_;exact(by first|omega|(simp;done)|(simp;omega)))|apply VB.put2|apply VB.put3|apply VB.put5|refine VB.drew ?_|refine VB.far ?_ ?_ _|refine VB.alloc ?_ _|refine VB.gr ?_ HG3.out ?_|refine VB.gr ?_ HG2.out ?_|refine VB.gr ?_ HG1.out ?_|omega|(simp;done)|(simp;omega))))
end Go.Proofs.YtmelogdhllhjiaaGreat
