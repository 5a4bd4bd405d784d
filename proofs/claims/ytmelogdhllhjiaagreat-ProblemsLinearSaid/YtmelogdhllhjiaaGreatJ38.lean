/-
  Part 38 of the proof: Made.
-/
import Derived.Test.YtmelogdhllhjiaaGreatJ31
import Derived.Test.YtmelogdhllhjiaaGreatJ34
import Derived.Test.YtmelogdhllhjiaaGreatJ37
set_option linter.unusedSimpArgs false
set_option linter.unusedVariables false
namespace Go.Proofs.YtmelogdhllhjiaaGreat
open Go.RowKit Gus Go.Maps
set_option maxRecDepth 20000 in
set_option maxHeartbeats 8000000 in
theorem made_raw (a b c q:Rat) (lu lF:List T) (vp vt vs v sv:Value) (R:Ending→World→Prop) (w:World) (hM:MS w 0 vp vt vs ⟨sqP,sqT,rmS⟩) (hU:PL w 0 v lu) (hSr:(∀W,Gr w.heap.size w W→Calls Tryz.prog 8 #[k3V a b c,fracV q,v] W (RetP W lF)))
  (hD:(∃(fb:Nat) (lg:List T),sv= .slice (some ⟨fb,0,none⟩) 1 1∧VB w fb [.int .i64 0]∧(∀W,Gr w.heap.size w W→Calls Tryz.prog 9 #[v,.slice none 0 0] W (RetP W lg))∧(∀(W:World) (p:Prb) (u:Value),MS W 0 p.vp p.vt p.vs ⟨sqP,sqT,rmS⟩→p.order=1→p.a=a→p.b=b→p.c=c→p.q=q→PL W 0 p.f lF→SR gvC 5 71 W 0 p.gv [⟨0,true,u,.slice none 0 0,.slice none 0 0⟩]→PL W 0 u lg→Calls Tryz.prog 40 #[prV p] W (Ret W (.int .i64 0)))∧∀e w',(∃(p:Prb) (u:Value),e= .returned (.tuple #[prV p,.int .i64 0])∧(∀v∈prC p,v.oneCell'=true)∧PL w' w.heap.size p.f lF∧SR gvC 5 71 w' w.heap.size p.gv [⟨0,true,u,.slice none 0 0,.slice none 0 0⟩]∧Gr w.heap.size w w')→R e w')∨(∃(l0 l1:List T),sv= .slice none 0 0∧(∀W,Gr w.heap.size w W→Calls Tryz.prog 10 #[k3V a b c,v] W (fun e w'=> ∃v1 v2,e= .returned (.agg #[v1,v2])∧PL w' W.heap.size v1 l0∧PL w' W.heap.size v2 l1∧Gr W.heap.size W w'))∧(∀(W:World) (p:Prb) (g0 g1:Value),MS W 0 p.vp p.vt p.vs ⟨sqP,sqT,rmS⟩→p.order=1→p.a=a→p.b=b→p.c=c→p.q=q→PL W 0 p.f lF→SR gvC 5 71 W 0 p.gv [⟨0,false,.slice none 0 0,g0,g1⟩]→PL W 0 g0 l0→PL W 0 g1 l1→Calls Tryz.prog 40 #[prV p] W (Ret W (.int .i64 6)))∧∀e w',(e= .returned (.tuple #[.agg #[.slice none 0 0,.slice none 0 0,.slice none 0 0,.int .i64 0,.int .u64 0,.string ⟨#[]⟩,.bool false,.int .u64 0,.string ⟨#[]⟩,.int .u64 0,.string ⟨#[]⟩,.bool false,.int .u64 0,.string ⟨#[]⟩,.int .u64 0,.string ⟨#[]⟩,.bool false,.int .u64 0,.string ⟨#[]⟩,.int .u64 0,.string ⟨#[]⟩,.bool false,.int .u64 0,.string ⟨#[]⟩,.slice none 0 0,.slice none 0 0],.int .i64 6])∧Gr w.heap.size w w')→R e w')):
  Calls Tryz.prog 18 #[.agg #[vp,vt,vs],.int .i64 1,k3V a b c,fracV q,v,sv] w R:=by
 have HCo:=Lib.hid (fun W (hW:Gr w.heap.size w W)=>ms_Copy ⟨sqP,sqT,rmS⟩ vp vt vs W (hM.gr hW) (by simp [sqP]) (by simp [sqT]) (by simp [rmS]))
 have HSr:=Lib.hid hSr
 have HD:=Lib.hid hD
 have HU:=Lib.hid hU
 obtain ⟨gs,cs,rfl,_,hcs,_,hsh,hR⟩:=hM.2.2.block (by simp [rmS])
 have hgs:=hsh.lt
 have HR:=Lib.hid hR
 clear hSr hD hU hM hsh hR
 simp only [rmS,List.length_cons,List.length_nil,Nat.zero_add,Nat.reduceAdd]at hcs HCo ⊢
 obtain ⟨i0,hi,hz0,hz1,hz2⟩:=info_parts info_nat
 have HI:=Lib.hid (And.intro hi (And.intro hz0 (And.intro hz1 hz2)))
 obtain ⟨i1,hj,hj0,hj1,hj2⟩:=info_parts info_bGiven
 have HJ:=Lib.hid (And.intro hj (And.intro hj0 (And.intro hj1 hj2)))
 clear hi hz0 hz1 hz2 hj hj0 hj1 hj2
 go_enter Tryz.func18,Tryz.ntmps18
 go_upto_region 1 with fail
 have HB0:=Lib.hid (show VB ((((w.alloc (.cells #[vp,vt,.slice (some ⟨gs,0,none⟩) 4 cs] 63)).alloc (.cells #[.int .u64 (lowN (sz a.num)),.string (bigS (sz a.num)),.bool (ng a.num),.int .u64 (lowN (fm a)),.string (bigS (fm a)),.int .u64 (lowN (sz b.num)),.string (bigS (sz b.num)),.bool (ng b.num),.int .u64 (lowN (fm b)),.string (bigS (fm b)),.int .u64 (lowN (sz c.num)),.string (bigS (sz c.num)),.bool (ng c.num),.int .u64 (lowN (fm c)),.string (bigS (fm c))] 39)).alloc (.cells #[.int .u64 (lowN (sz q.num)),.string (bigS (sz q.num)),.bool (ng q.num),.int .u64 (lowN (fm q)),.string (bigS (fm q))] 37)).alloc (.cells #[.slice none 0 0,.slice none 0 0,.slice none 0 0,.int .i64 0,.int .u64 0,.string ⟨#[]⟩,.bool false,.int .u64 0,.string ⟨#[]⟩,.int .u64 0,.string ⟨#[]⟩,.bool false,.int .u64 0,.string ⟨#[]⟩,.int .u64 0,.string ⟨#[]⟩,.bool false,.int .u64 0,.string ⟨#[]⟩,.int .u64 0,.string ⟨#[]⟩,.bool false,.int .u64 0,.string ⟨#[]⟩,.slice none 0 0,.slice none 0 0] 66)) (w.heap.size) [vp,vt,.slice (some ⟨gs,0,none⟩) 4 cs]from by(with_reducible (repeat' (first|(refine VB.new' ?_;exact(by first|omega|(simp;done)|(simp;omega)))|apply VB.put2|apply VB.put3|apply VB.put5|refine VB.drew ?_|refine VB.far ?_ ?_ _|refine VB.alloc ?_ _|omega|(simp;done)|(simp;omega)))))
 have HB1:=Lib.hid (show VB ((((w.alloc (.cells #[vp,vt,.slice (some ⟨gs,0,none⟩) 4 cs] 63)).alloc (.cells #[.int .u64 (lowN (sz a.num)),.string (bigS (sz a.num)),.bool (ng a.num),.int .u64 (lowN (fm a)),.string (bigS (fm a)),.int .u64 (lowN (sz b.num)),.string (bigS (sz b.num)),.bool (ng b.num),.int .u64 (lowN (fm b)),.string (bigS (fm b)),.int .u64 (lowN (sz c.num)),.string (bigS (sz c.num)),.bool (ng c.num),.int .u64 (lowN (fm c)),.string (bigS (fm c))] 39)).alloc (.cells #[.int .u64 (lowN (sz q.num)),.string (bigS (sz q.num)),.bool (ng q.num),.int .u64 (lowN (fm q)),.string (bigS (fm q))] 37)).alloc (.cells #[.slice none 0 0,.slice none 0 0,.slice none 0 0,.int .i64 0,.int .u64 0,.string ⟨#[]⟩,.bool false,.int .u64 0,.string ⟨#[]⟩,.int .u64 0,.string ⟨#[]⟩,.bool false,.int .u64 0,.string ⟨#[]⟩,.int .u64 0,.string ⟨#[]⟩,.bool false,.int .u64 0,.string ⟨#[]⟩,.int .u64 0,.string ⟨#[]⟩,.bool false,.int .u64 0,.string ⟨#[]⟩,.slice none 0 0,.slice none 0 0] 66)) (w.heap.size+1) [.int .u64 (lowN (sz a.num)),.string (bigS (sz a.num)),.bool (ng a.num),.int .u64 (lowN (fm a)),.string (bigS (fm a)),.int .u64 (lowN (sz b.num)),.string (bigS (sz b.num)),.bool (ng b.num),.int .u64 (lowN (fm b)),.string (bigS (fm b)),.int .u64 (lowN (sz c.num)),.string (bigS (sz c.num)),.bool (ng c.num),.int .u64 (lowN (fm c)),.string (bigS (fm c))]from by(with_reducible (repeat' (first|(refine VB.new' ?_;exact(by first|omega|(simp;done)|(simp;omega)))|apply VB.put2|apply VB.put3|apply VB.put5|refine VB.drew ?_|refine VB.far ?_ ?_ _|refine VB.alloc ?_ _|omega|(simp;done)|(simp;omega)))))
 have HB2:=Lib.hid (show VB ((((w.alloc (.cells #[vp,vt,.slice (some ⟨gs,0,none⟩) 4 cs] 63)).alloc (.cells #[.int .u64 (lowN (sz a.num)),.string (bigS (sz a.num)),.bool (ng a.num),.int .u64 (lowN (fm a)),.string (bigS (fm a)),.int .u64 (lowN (sz b.num)),.string (bigS (sz b.num)),.bool (ng b.num),.int .u64 (lowN (fm b)),.string (bigS (fm b)),.int .u64 (lowN (sz c.num)),.string (bigS (sz c.num)),.bool (ng c.num),.int .u64 (lowN (fm c)),.string (bigS (fm c))] 39)).alloc (.cells #[.int .u64 (lowN (sz q.num)),.string (bigS (sz q.num)),.bool (ng q.num),.int .u64 (lowN (fm q)),.string (bigS (fm q))] 37)).alloc (.cells #[.slice none 0 0,.slice none 0 0,.slice none 0 0,.int .i64 0,.int .u64 0,.string ⟨#[]⟩,.bool false,.int .u64 0,.string ⟨#[]⟩,.int .u64 0,.string ⟨#[]⟩,.bool false,.int .u64 0,.string ⟨#[]⟩,.int .u64 0,.string ⟨#[]⟩,.bool false,.int .u64 0,.string ⟨#[]⟩,.int .u64 0,.string ⟨#[]⟩,.bool false,.int .u64 0,.string ⟨#[]⟩,.slice none 0 0,.slice none 0 0] 66)) (w.heap.size+1+1) [.int .u64 (lowN (sz q.num)),.string (bigS (sz q.num)),.bool (ng q.num),.int .u64 (lowN (fm q)),.string (bigS (fm q))]from by(with_reducible (repeat' (first|(refine VB.new' ?_;exact(by first|omega|(simp;done)|(simp;omega)))|apply VB.put2|apply VB.put3|apply VB.put5|refine VB.drew ?_|refine VB.far ?_ ?_ _|refine VB.alloc ?_ _|omega|(simp;done)|(simp;omega)))))
 have HB3:=Lib.hid (show VB ((((w.alloc (.cells #[vp,vt,.slice (some ⟨gs,0,none⟩) 4 cs] 63)).alloc (.cells #[.int .u64 (lowN (sz a.num)),.string (bigS (sz a.num)),.bool (ng a.num),.int .u64 (lowN (fm a)),.string (bigS (fm a)),.int .u64 (lowN (sz b.num)),.string (bigS (sz b.num)),.bool (ng b.num),.int .u64 (lowN (fm b)),.string (bigS (fm b)),.int .u64 (lowN (sz c.num)),.string (bigS (sz c.num)),.bool (ng c.num),.int .u64 (lowN (fm c)),.string (bigS (fm c))] 39)).alloc (.cells #[.int .u64 (lowN (sz q.num)),.string (bigS (sz q.num)),.bool (ng q.num),.int .u64 (lowN (fm q)),.string (bigS (fm q))] 37)).alloc (.cells #[.slice none 0 0,.slice none 0 0,.slice none 0 0,.int .i64 0,.int .u64 0,.string ⟨#[]⟩,.bool false,.int .u64 0,.string ⟨#[]⟩,.int .u64 0,.string ⟨#[]⟩,.bool false,.int .u64 0,.string ⟨#[]⟩,.int .u64 0,.string ⟨#[]⟩,.bool false,.int .u64 0,.string ⟨#[]⟩,.int .u64 0,.string ⟨#[]⟩,.bool false,.int .u64 0,.string ⟨#[]⟩,.slice none 0 0,.slice none 0 0] 66)) (w.heap.size+1+1+1) [.slice none 0 0,.slice none 0 0,.slice none 0 0,.int .i64 0,.int .u64 0,.string ⟨#[]⟩,.bool false,.int .u64 0,.string ⟨#[]⟩,.int .u64 0,.string ⟨#[]⟩,.bool false,.int .u64 0,.string ⟨#[]⟩,.int .u64 0,.string ⟨#[]⟩,.bool false,.int .u64 0,.string ⟨#[]⟩,.int .u64 0,.string ⟨#[]⟩,.bool false,.int .u64 0,.string ⟨#[]⟩,.slice none 0 0,.slice none 0 0]from by(with_reducible (repeat' (first|(refine VB.new' ?_;exact(by first|omega|(simp;done)|(simp;omega)))|apply VB.put2|apply VB.put3|apply VB.put5|refine VB.drew ?_|refine VB.far ?_ ?_ _|refine VB.alloc ?_ _|omega|(simp;done)|(simp;omega)))))
 have HG0:=Lib.hid (show Gr w.heap.size w ((((w.alloc (.cells #[vp,vt,.slice (some ⟨gs,0,none⟩) 4 cs] 63)).alloc (.cells #[.int .u64 (lowN (sz a.num)),.string (bigS (sz a.num)),.bool (ng a.num),.int .u64 (lowN (fm a)),.string (bigS (fm a)),.int .u64 (lowN (sz b.num)),.string (bigS (sz b.num)),.bool (ng b.num),.int .u64 (lowN (fm b)),.string (bigS (fm b)),.int .u64 (lowN (sz c.num)),.string (bigS (sz c.num)),.bool (ng c.num),.int .u64 (lowN (fm c)),.string (bigS (fm c))] 39)).alloc (.cells #[.int .u64 (lowN (sz q.num)),.string (bigS (sz q.num)),.bool (ng q.num),.int .u64 (lowN (fm q)),.string (bigS (fm q))] 37)).alloc (.cells #[.slice none 0 0,.slice none 0 0,.slice none 0 0,.int .i64 0,.int .u64 0,.string ⟨#[]⟩,.bool false,.int .u64 0,.string ⟨#[]⟩,.int .u64 0,.string ⟨#[]⟩,.bool false,.int .u64 0,.string ⟨#[]⟩,.int .u64 0,.string ⟨#[]⟩,.bool false,.int .u64 0,.string ⟨#[]⟩,.int .u64 0,.string ⟨#[]⟩,.bool false,.int .u64 0,.string ⟨#[]⟩,.slice none 0 0,.slice none 0 0] 66))from by(with_reducible (repeat' (first|exact Gr.refl _ _|refine Gr.drew ?_|refine Gr.setCell ?_ ?_ _|refine Gr.alloc ?_ ?_ _|omega|(simp;done)|(simp;omega)))))
 have hs0:((((w.alloc (.cells #[vp,vt,.slice (some ⟨gs,0,none⟩) 4 cs] 63)).alloc (.cells #[.int .u64 (lowN (sz a.num)),.string (bigS (sz a.num)),.bool (ng a.num),.int .u64 (lowN (fm a)),.string (bigS (fm a)),.int .u64 (lowN (sz b.num)),.string (bigS (sz b.num)),.bool (ng b.num),.int .u64 (lowN (fm b)),.string (bigS (fm b)),.int .u64 (lowN (sz c.num)),.string (bigS (sz c.num)),.bool (ng c.num),.int .u64 (lowN (fm c)),.string (bigS (fm c))] 39)).alloc (.cells #[.int .u64 (lowN (sz q.num)),.string (bigS (sz q.num)),.bool (ng q.num),.int .u64 (lowN (fm q)),.string (bigS (fm q))] 37)).alloc (.cells #[.slice none 0 0,.slice none 0 0,.slice none 0 0,.int .i64 0,.int .u64 0,.string ⟨#[]⟩,.bool false,.int .u64 0,.string ⟨#[]⟩,.int .u64 0,.string ⟨#[]⟩,.bool false,.int .u64 0,.string ⟨#[]⟩,.int .u64 0,.string ⟨#[]⟩,.bool false,.int .u64 0,.string ⟨#[]⟩,.int .u64 0,.string ⟨#[]⟩,.bool false,.int .u64 0,.string ⟨#[]⟩,.slice none 0 0,.slice none 0 0] 66)).heap.size=w.heap.size+4:=by simp
 generalize (((w.alloc (.cells #[vp,vt,.slice (some ⟨gs,0,none⟩) 4 cs] 63)).alloc (.cells #[.int .u64 (lowN (sz a.num)),.string (bigS (sz a.num)),.bool (ng a.num),.int .u64 (lowN (fm a)),.string (bigS (fm a)),.int .u64 (lowN (sz b.num)),.string (bigS (sz b.num)),.bool (ng b.num),.int .u64 (lowN (fm b)),.string (bigS (fm b)),.int .u64 (lowN (sz c.num)),.string (bigS (sz c.num)),.bool (ng c.num),.int .u64 (lowN (fm c)),.string (bigS (fm c))] 39)).alloc (.cells #[.int .u64 (lowN (sz q.num)),.string (bigS (sz q.num)),.bool (ng q.num),.int .u64 (lowN (fm q)),.string (bigS (fm q))] 37)).alloc (.cells #[.slice none 0 0,.slice none 0 0,.slice none 0 0,.int .i64 0,.int .u64 0,.string ⟨#[]⟩,.bool false,.int .u64 0,.string ⟨#[]⟩,.int .u64 0,.string ⟨#[]⟩,.bool false,.int .u64 0,.string ⟨#[]⟩,.int .u64 0,.string ⟨#[]⟩,.bool false,.int .u64 0,.string ⟨#[]⟩,.int .u64 0,.string ⟨#[]⟩,.bool false,.int .u64 0,.string ⟨#[]⟩,.slice none 0 0,.slice none 0 0] 66)=w0 at *
 have hz0_0:w.heap.size<w0.heap.size:=by omega
 have hz0_1:w.heap.size+1<w0.heap.size:=by omega
 have hz0_2:w.heap.size+1+1<w0.heap.size:=by omega
 have hz0_3:w.heap.size+1+1+1<w0.heap.size:=by omega
 clear hs0
 obtain ⟨x0,x1,x2,_⟩:=HB0.out.three
 have y0:=HB1.out.c 0 _ rfl
 have y1:=HB1.out.c 1 _ rfl
 have y2:=HB1.out.c 2 _ rfl
 have y3:=HB1.out.c 3 _ rfl
 have y4:=HB1.out.c 4 _ rfl
 have y5:=HB1.out.c 5 _ rfl
 have y6:=HB1.out.c 6 _ rfl
 have y7:=HB1.out.c 7 _ rfl
 have y8:=HB1.out.c 8 _ rfl
 have y9:=HB1.out.c 9 _ rfl
 have y10:=HB1.out.c 10 _ rfl
 have y11:=HB1.out.c 11 _ rfl
 have y12:=HB1.out.c 12 _ rfl
 have y13:=HB1.out.c 13 _ rfl
 have y14:=HB1.out.c 14 _ rfl
 obtain ⟨z0,z1,z2,z3,z4,_,_,_,_,_⟩:=HB2.out.five
 go_cut [14] (fun x wx=> ∃tb ca cb cc vF,x= .pointer (some ⟨tb,0,none⟩)∧w0.heap.size≤tb∧MadS w wx tb ca cb cc vF vp vt (.slice (some ⟨gs,0,none⟩) 4 cs) a b c q lF)
 case first=>
  refine wp_region_held_drew (S:=(fun w'=>w'.cell? ⟨w.heap.size,0,none⟩=some (vp)∧w'.cell? ⟨w.heap.size,1,none⟩=some (vt)∧w'.cell? ⟨w.heap.size,2,none⟩=some (.slice (some ⟨gs,0,none⟩) 4 cs)∧w'.cell? ⟨w.heap.size+1,0,none⟩=some (.int .u64 (lowN (sz a.num)))∧w'.cell? ⟨w.heap.size+1,1,none⟩=some (.string (bigS (sz a.num)))∧w'.cell? ⟨w.heap.size+1,2,none⟩=some (.bool (ng a.num))∧w'.cell? ⟨w.heap.size+1,3,none⟩=some (.int .u64 (lowN (fm a)))∧w'.cell? ⟨w.heap.size+1,4,none⟩=some (.string (bigS (fm a)))∧w'.cell? ⟨w.heap.size+1,5,none⟩=some (.int .u64 (lowN (sz b.num)))∧w'.cell? ⟨w.heap.size+1,6,none⟩=some (.string (bigS (sz b.num)))∧w'.cell? ⟨w.heap.size+1,7,none⟩=some (.bool (ng b.num))∧w'.cell? ⟨w.heap.size+1,8,none⟩=some (.int .u64 (lowN (fm b)))∧w'.cell? ⟨w.heap.size+1,9,none⟩=some (.string (bigS (fm b)))∧w'.cell? ⟨w.heap.size+1,10,none⟩=some (.int .u64 (lowN (sz c.num)))∧w'.cell? ⟨w.heap.size+1,11,none⟩=some (.string (bigS (sz c.num)))∧w'.cell? ⟨w.heap.size+1,12,none⟩=some (.bool (ng c.num))∧w'.cell? ⟨w.heap.size+1,13,none⟩=some (.int .u64 (lowN (fm c)))∧w'.cell? ⟨w.heap.size+1,14,none⟩=some (.string (bigS (fm c)))∧w'.cell? ⟨w.heap.size+1+1,0,none⟩=some (.int .u64 (lowN (sz q.num)))∧w'.cell? ⟨w.heap.size+1+1,1,none⟩=some (.string (bigS (sz q.num)))∧w'.cell? ⟨w.heap.size+1+1,2,none⟩=some (.bool (ng q.num))∧w'.cell? ⟨w.heap.size+1+1,3,none⟩=some (.int .u64 (lowN (fm q)))∧w'.cell? ⟨w.heap.size+1+1,4,none⟩=some (.string (bigS (fm q))))) (by kernel_rfl) ?_ (fun hHeld=>?_)
  ·simp [go_sem, *]
  refine tk 0 (some 22) (.agg #[vp,vt,.slice (some ⟨gs,0,none⟩) 4 cs]) ?_
  try simp only [pS]
  refine tk 2 (some 24) (.int .i64 1) ?_
  try simp only [pS]
  refine tk 3 (some 25) (.agg #[.int .u64 (lowN (sz a.num)),.string (bigS (sz a.num)),.bool (ng a.num),.int .u64 (lowN (fm a)),.string (bigS (fm a)),.int .u64 (lowN (sz b.num)),.string (bigS (sz b.num)),.bool (ng b.num),.int .u64 (lowN (fm b)),.string (bigS (fm b)),.int .u64 (lowN (sz c.num)),.string (bigS (sz c.num)),.bool (ng c.num),.int .u64 (lowN (fm c)),.string (bigS (fm c))]) ?_
  try simp only [pS]
  refine tk 4 (some 26) (.agg #[.int .u64 (lowN (sz q.num)),.string (bigS (sz q.num)),.bool (ng q.num),.int .u64 (lowN (fm q)),.string (bigS (fm q))]) ?_
  try simp only [pS]
  refine tk 5 (some 27) (.agg #[.int .u64 (lowN (sz a.num)),.string (bigS (sz a.num)),.bool (ng a.num),.int .u64 (lowN (fm a)),.string (bigS (fm a)),.int .u64 (lowN (sz b.num)),.string (bigS (sz b.num)),.bool (ng b.num),.int .u64 (lowN (fm b)),.string (bigS (fm b)),.int .u64 (lowN (sz c.num)),.string (bigS (sz c.num)),.bool (ng c.num),.int .u64 (lowN (fm c)),.string (bigS (fm c))]) ?_
  try simp only [pS]
  refine tk 6 (some 28) (.agg #[.int .u64 (lowN (sz q.num)),.string (bigS (sz q.num)),.bool (ng q.num),.int .u64 (lowN (fm q)),.string (bigS (fm q))]) ?_
  try simp only [pS]
  refine tk 7 (some 29) (v) ?_
  try simp only [pS]
  refine wpAnyH_ready (rs:= [1,10]) (by kernel_rfl) (by simp) ?_
  refine AllReadyH.cons rfl (fun K hK=>?_) (AllReadyH.cons rfl (fun K hK=>?_) AllReadyH.nil)
  ·go_simp
   refine(HCo.out _ (by(with_reducible (repeat' (first|exact Gr.refl _ _|refine Gr.drew ?_|refine Gr.setCell ?_ ?_ _|refine Gr.alloc ?_ ?_ _|refine Gr.trans ?_ (Gr.mono HG0.out ?_)|omega|(simp;done)|(simp;omega)))))).mono ?_
   rintro e w1 ⟨ca,cb,cc,rfl,hMc,hg1⟩
   (try (with_reducible replace hg1:=Gr.of_drew hg1))
   have hsz1:=hg1.size
   (try simp at hsz1)
   have hz1_0:w.heap.size<w1.heap.size:=(by omega)
   have hz1_1:w.heap.size+1<w1.heap.size:=(by omega)
   have hz1_2:w.heap.size+1+1<w1.heap.size:=(by omega)
   have hz1_3:w.heap.size+1+1+1<w1.heap.size:=(by omega)
   obtain ⟨hc1,hf1⟩:=hg1.cells
   have HG1:=Lib.hid hg1
   clear hg1
   obtain ⟨pa,pc,hpa⟩:=hMc.1.at
   obtain ⟨ta,tc,hta⟩:=hMc.2.1.at
   obtain ⟨sa,sc,hsa⟩:=hMc.2.2.at
   obtain rfl:ca= .slice pa 4 pc:=hpa
   obtain rfl:cb= .slice ta 2 tc:=hta
   obtain rfl:cc= .slice sa 4 sc:=hsa
   have HMC:=Lib.hid (And.intro (own_ms hMc) hMc)
   clear hMc
   (try dsimp only)
   refine hK.out _ _ ?_ (fun hQ1=>?_)
   ·(first|exact trivial|((try dsimp only);simp [go_sem, *]))
   clear hK K hHeld
   try simp only [pS]
   refine wpAnyH_ready (rs:= [8,10]) (by kernel_rfl) (by simp) ?_
   refine AllReadyH.cons rfl (fun K hK=>?_) (AllReadyH.cons rfl (fun K hK=>?_) AllReadyH.nil)
   ·go_simp
    refine(HSr.out _ (by(with_reducible (repeat' (first|exact Gr.refl _ _|refine Gr.drew ?_|refine Gr.setCell ?_ ?_ _|refine Gr.alloc ?_ ?_ _|refine Gr.trans ?_ (Gr.mono HG1.out ?_)|refine Gr.trans ?_ (Gr.mono HG0.out ?_)|omega|(simp;done)|(simp;omega)))))).mono ?_
    rintro e w2 ⟨vF,rfl,hPF,hg2⟩
    (try (with_reducible replace hg2:=Gr.of_drew hg2))
    have hsz2:=hg2.size
    (try simp at hsz2)
    have hz2_0:w.heap.size<w2.heap.size:=(by omega)
    have hz2_1:w.heap.size+1<w2.heap.size:=(by omega)
    have hz2_2:w.heap.size+1+1<w2.heap.size:=(by omega)
    have hz2_3:w.heap.size+1+1+1<w2.heap.size:=(by omega)
    obtain ⟨hc2,hf2⟩:=hg2.cells
    have HG2:=Lib.hid hg2
    clear hg2
    obtain ⟨fa,fc,rfl⟩:=hPF.at
    have HPF:=Lib.hid (And.intro (own_sl hPF) hPF)
    clear hPF
    (try dsimp only)
    refine hK.out _ _ ?_ (fun hQ2=>?_)
    ·(first|exact trivial|((try dsimp only);simp [go_sem, *]))
    clear hK K hQ1
    try simp only [pS]
    refine tk 9 (some 31) (.agg #[.slice pa 4 pc,.slice ta 2 tc,.slice sa 4 sc,.int .i64 1,.int .u64 (lowN (sz a.num)),.string (bigS (sz a.num)),.bool (ng a.num),.int .u64 (lowN (fm a)),.string (bigS (fm a)),.int .u64 (lowN (sz b.num)),.string (bigS (sz b.num)),.bool (ng b.num),.int .u64 (lowN (fm b)),.string (bigS (fm b)),.int .u64 (lowN (sz c.num)),.string (bigS (sz c.num)),.bool (ng c.num),.int .u64 (lowN (fm c)),.string (bigS (fm c)),.int .u64 (lowN (sz q.num)),.string (bigS (sz q.num)),.bool (ng q.num),.int .u64 (lowN (fm q)),.string (bigS (fm q)),.slice fa lF.length fc,.slice none 0 0]) ?_
    try simp only [pS]
    refine wpAnyH_ready (rs:= [10]) (by kernel_rfl) (by simp) ?_
    refine AllReadyH.cons rfl (fun K hK=>?_) AllReadyH.nil
    go_simp
    have ha2_0:w.heap.size<w2.heap.size+1:=(by omega)
    have ha2_1:w.heap.size+1<w2.heap.size+1:=(by omega)
    have ha2_2:w.heap.size+1+1<w2.heap.size+1:=(by omega)
    have ha2_3:w.heap.size+1+1+1<w2.heap.size+1:=(by omega)
    (try dsimp only)
    refine hK.out _ _ ?_ (fun hQ3=>?_)
    ·(first|exact trivial|((try dsimp only);simp [go_sem, *]))
    clear hK K hQ2
    try simp only [pS]
    refine wpAnyH_ready (rs:= [11]) (by kernel_rfl) (by simp) ?_
    refine AllReadyH.cons (o:=⟨none,_,_,_,_,_⟩) rfl (fun K hK=>?_) AllReadyH.nil
    rw [if_pos (by rfl)]
    refine wp_store_mid 66 _ _ rfl (w2.heap.size) 0 (List.toArray [.slice pa 4 pc,.slice ta 2 tc,.slice sa 4 sc,.int .i64 1,.int .u64 (lowN (sz a.num)),.string (bigS (sz a.num)),.bool (ng a.num),.int .u64 (lowN (fm a)),.string (bigS (fm a)),.int .u64 (lowN (sz b.num)),.string (bigS (sz b.num)),.bool (ng b.num),.int .u64 (lowN (fm b)),.string (bigS (fm b)),.int .u64 (lowN (sz c.num)),.string (bigS (sz c.num)),.bool (ng c.num),.int .u64 (lowN (fm c)),.string (bigS (fm c)),.int .u64 (lowN (sz q.num)),.string (bigS (sz q.num)),.bool (ng q.num),.int .u64 (lowN (fm q)),.string (bigS (fm q)),.slice fa lF.length fc,.slice none 0 0]) rfl rfl (VB.there (cs:= [.slice none 0 0,.slice none 0 0,.slice none 0 0,.int .i64 0,.int .u64 0,.string ⟨#[]⟩,.bool false,.int .u64 0,.string ⟨#[]⟩,.int .u64 0,.string ⟨#[]⟩,.bool false,.int .u64 0,.string ⟨#[]⟩,.int .u64 0,.string ⟨#[]⟩,.bool false,.int .u64 0,.string ⟨#[]⟩,.int .u64 0,.string ⟨#[]⟩,.bool false,.int .u64 0,.string ⟨#[]⟩,.slice none 0 0,.slice none 0 0]) ?_) info_Prb (by first|rfl|simp [Value.oneCell']) ?_
    ·(with_reducible (repeat' (first|(refine VB.new' ?_;exact(by first|omega|(simp;done)|(simp;omega)))|apply VB.put2|apply VB.put3|apply VB.put5|refine VB.drew ?_|refine VB.far ?_ ?_ _|refine VB.alloc ?_ _|refine VB.gr ?_ HG2.out ?_|refine VB.gr ?_ HG1.out ?_|refine VB.gr ?_ HG0.out ?_|omega|(simp;done)|(simp;omega))))
    simp only [pS]
    refine hK.out _ _ ?_ (fun hQ4=>?_)
    ·have hh:=hQ3;(try dsimp only at hh ⊢);simp only [cell_sets_ne (show w.heap.size≠w2.heap.size by omega),cell_sets_ne (show w.heap.size+1≠w2.heap.size by omega),cell_sets_ne (show w.heap.size+1+1≠w2.heap.size by omega)];exact hh
    clear hK K hQ3
    refine wpAnyH_done (by kernel_rfl) ?_ _
    go_wp2_with fail
    go_meet
    refine⟨w2.heap.size,.slice pa 4 pc,.slice ta 2 tc,.slice sa 4 sc,.slice fa lF.length fc,rfl,by first|omega|(simp;done)|(simp;omega),⟨?_,?_,?_,?_,?_,?_,?_,?_,?_,?_,?_⟩⟩
    ·refine VB.set (cs:= [.slice none 0 0,.slice none 0 0,.slice none 0 0,.int .i64 0,.int .u64 0,.string ⟨#[]⟩,.bool false,.int .u64 0,.string ⟨#[]⟩,.int .u64 0,.string ⟨#[]⟩,.bool false,.int .u64 0,.string ⟨#[]⟩,.int .u64 0,.string ⟨#[]⟩,.bool false,.int .u64 0,.string ⟨#[]⟩,.int .u64 0,.string ⟨#[]⟩,.bool false,.int .u64 0,.string ⟨#[]⟩,.slice none 0 0,.slice none 0 0]) ?_ (prC ⟨.slice pa 4 pc,.slice ta 2 tc,.slice sa 4 sc,1,a,b,c,q,.slice fa lF.length fc,.slice none 0 0⟩) rfl
     (with_reducible (repeat' (first|(refine VB.new' ?_;exact(by first|omega|(simp;done)|(simp;omega)))|apply VB.put2|apply VB.put3|apply VB.put5|refine VB.drew ?_|refine VB.far ?_ ?_ _|refine VB.alloc ?_ _|refine VB.gr ?_ HG2.out ?_|refine VB.gr ?_ HG1.out ?_|refine VB.gr ?_ HG0.out ?_|omega|(simp;done)|(simp;omega))))
    ·exact MS.kp (HMC.out.2.gr (by(with_reducible (repeat' (first|exact Gr.refl _ _|refine Gr.drew ?_|refine Gr.setCell ?_ ?_ _|refine Gr.alloc ?_ ?_ _|refine Gr.trans ?_ (Gr.mono HG2.out ?_)|refine Gr.trans ?_ (Gr.mono HG1.out ?_)|refine Gr.trans ?_ (Gr.mono HG0.out ?_)|omega|(simp;done)|(simp;omega)))))) (Kp.sets _ _ _ _) (fun g e=>by have:=HMC.out.1.1 g e;(try simp at this);omega) (fun g e=>by have:=HMC.out.1.2.1 g e;(try simp at this);omega) (fun g e=>by have:=HMC.out.1.2.2 g e;(try simp at this);omega)
    ·exact SL.mono (Kp.sl (Kp.sets _ _ _ _) (HPF.out.2.gr (by(with_reducible (repeat' (first|exact Gr.refl _ _|refine Gr.drew ?_|refine Gr.setCell ?_ ?_ _|refine Gr.alloc ?_ ?_ _|refine Gr.trans ?_ (Gr.mono HG2.out ?_)|refine Gr.trans ?_ (Gr.mono HG1.out ?_)|refine Gr.trans ?_ (Gr.mono HG0.out ?_)|omega|(simp;done)|(simp;omega)))))) (fun g e=>by have:=HPF.out.1 g e;(try simp at this);simp;omega)) (by first|omega|(simp;done)|(simp;omega))
    ·intro g e
     have:=HMC.out.1.1 g e
     (try simp at this)
     omega
    ·intro g e
     have:=HMC.out.1.2.1 g e
     (try simp at this)
     omega
    ·intro g e
     have:=HMC.out.1.2.2 g e
     (try simp at this)
     omega
    ·intro g e
     have:=HPF.out.1 g e
     (try simp at this)
     omega
    ·exact Gr.sets (by omega) _ _ (by(with_reducible (repeat' (first|exact Gr.refl _ _|refine Gr.drew ?_|refine Gr.setCell ?_ ?_ _|refine Gr.alloc ?_ ?_ _|refine Gr.trans ?_ (Gr.mono HG2.out ?_)|refine Gr.trans ?_ (Gr.mono HG1.out ?_)|refine Gr.trans ?_ (Gr.mono HG0.out ?_)|omega|(simp;done)|(simp;omega)))))
    ·refine VB.fars (by omega) _ _ ?_
     (with_reducible (repeat' (first|(refine VB.new' ?_;exact(by first|omega|(simp;done)|(simp;omega)))|apply VB.put2|apply VB.put3|apply VB.put5|refine VB.drew ?_|refine VB.far ?_ ?_ _|refine VB.alloc ?_ _|exact HB0.out|refine VB.gr ?_ HG2.out ?_|refine VB.gr ?_ HG1.out ?_|refine VB.gr ?_ HG0.out ?_|omega|(simp;done)|(simp;omega))))
    ·refine VB.fars (by omega) _ _ ?_
     (with_reducible (repeat' (first|(refine VB.new' ?_;exact(by first|omega|(simp;done)|(simp;omega)))|apply VB.put2|apply VB.put3|apply VB.put5|refine VB.drew ?_|refine VB.far ?_ ?_ _|refine VB.alloc ?_ _|exact HB1.out|refine VB.gr ?_ HG2.out ?_|refine VB.gr ?_ HG1.out ?_|refine VB.gr ?_ HG0.out ?_|omega|(simp;done)|(simp;omega))))
    ·refine VB.fars (by omega) _ _ ?_
     (with_reducible (repeat' (first|(refine VB.new' ?_;exact(by first|omega|(simp;done)|(simp;omega)))|apply VB.put2|apply VB.put3|apply VB.put5|refine VB.drew ?_|refine VB.far ?_ ?_ _|refine VB.alloc ?_ _|exact HB3.out|refine VB.gr ?_ HG2.out ?_|refine VB.gr ?_ HG1.out ?_|refine VB.gr ?_ HG0.out ?_|omega|(simp;done)|(simp;omega))))
   ·go_simp
    have ha1_0:w.heap.size<w1.heap.size+1:=(by omega)
    have ha1_1:w.heap.size+1<w1.heap.size+1:=(by omega)
    have ha1_2:w.heap.size+1+1<w1.heap.size+1:=(by omega)
    have ha1_3:w.heap.size+1+1+1<w1.heap.size+1:=(by omega)
    (try dsimp only)
    refine hK.out _ _ ?_ (fun hQ2=>?_)
    ·(first|exact trivial|((try dsimp only);simp [go_sem, *]))
    clear hK K hQ1
    try simp only [pS]
    refine wpAnyH_ready (rs:= [8]) (by kernel_rfl) (by simp) ?_
    refine AllReadyH.cons rfl (fun K hK=>?_) AllReadyH.nil
    go_simp
    refine(HSr.out _ (by(with_reducible (repeat' (first|exact Gr.refl _ _|refine Gr.drew ?_|refine Gr.setCell ?_ ?_ _|refine Gr.alloc ?_ ?_ _|refine Gr.trans ?_ (Gr.mono HG1.out ?_)|refine Gr.trans ?_ (Gr.mono HG0.out ?_)|omega|(simp;done)|(simp;omega)))))).mono ?_
    rintro e w2 ⟨vF,rfl,hPF,hg2⟩
    (try (with_reducible replace hg2:=Gr.of_drew hg2))
    have hsz2:=hg2.size
    (try simp at hsz2)
    have hz2_0:w.heap.size<w2.heap.size:=(by omega)
    have hz2_1:w.heap.size+1<w2.heap.size:=(by omega)
    have hz2_2:w.heap.size+1+1<w2.heap.size:=(by omega)
    have hz2_3:w.heap.size+1+1+1<w2.heap.size:=(by omega)
    have hz2_4:w1.heap.size<w2.heap.size:=(by omega)
    obtain ⟨hc2,hf2⟩:=hg2.cells
    have HG2:=Lib.hid hg2
    clear hg2
    obtain ⟨fa,fc,rfl⟩:=hPF.at
    have HPF:=Lib.hid (And.intro (own_sl hPF) hPF)
    clear hPF
    (try dsimp only)
    refine hK.out _ _ ?_ (fun hQ3=>?_)
    ·(first|exact trivial|((try dsimp only);simp [go_sem, *]))
    clear hK K hQ2
    try simp only [pS]
    refine tk 9 (some 31) (.agg #[.slice pa 4 pc,.slice ta 2 tc,.slice sa 4 sc,.int .i64 1,.int .u64 (lowN (sz a.num)),.string (bigS (sz a.num)),.bool (ng a.num),.int .u64 (lowN (fm a)),.string (bigS (fm a)),.int .u64 (lowN (sz b.num)),.string (bigS (sz b.num)),.bool (ng b.num),.int .u64 (lowN (fm b)),.string (bigS (fm b)),.int .u64 (lowN (sz c.num)),.string (bigS (sz c.num)),.bool (ng c.num),.int .u64 (lowN (fm c)),.string (bigS (fm c)),.int .u64 (lowN (sz q.num)),.string (bigS (sz q.num)),.bool (ng q.num),.int .u64 (lowN (fm q)),.string (bigS (fm q)),.slice fa lF.length fc,.slice none 0 0]) ?_
    try simp only [pS]
    refine wpAnyH_ready (rs:= [11]) (by kernel_rfl) (by simp) ?_
    refine AllReadyH.cons (o:=⟨none,_,_,_,_,_⟩) rfl (fun K hK=>?_) AllReadyH.nil
    rw [if_pos (by rfl)]
    refine wp_store_mid 66 _ _ rfl (w1.heap.size) 0 (List.toArray [.slice pa 4 pc,.slice ta 2 tc,.slice sa 4 sc,.int .i64 1,.int .u64 (lowN (sz a.num)),.string (bigS (sz a.num)),.bool (ng a.num),.int .u64 (lowN (fm a)),.string (bigS (fm a)),.int .u64 (lowN (sz b.num)),.string (bigS (sz b.num)),.bool (ng b.num),.int .u64 (lowN (fm b)),.string (bigS (fm b)),.int .u64 (lowN (sz c.num)),.string (bigS (sz c.num)),.bool (ng c.num),.int .u64 (lowN (fm c)),.string (bigS (fm c)),.int .u64 (lowN (sz q.num)),.string (bigS (sz q.num)),.bool (ng q.num),.int .u64 (lowN (fm q)),.string (bigS (fm q)),.slice fa lF.length fc,.slice none 0 0]) rfl rfl (VB.there (cs:= [.slice none 0 0,.slice none 0 0,.slice none 0 0,.int .i64 0,.int .u64 0,.string ⟨#[]⟩,.bool false,.int .u64 0,.string ⟨#[]⟩,.int .u64 0,.string ⟨#[]⟩,.bool false,.int .u64 0,.string ⟨#[]⟩,.int .u64 0,.string ⟨#[]⟩,.bool false,.int .u64 0,.string ⟨#[]⟩,.int .u64 0,.string ⟨#[]⟩,.bool false,.int .u64 0,.string ⟨#[]⟩,.slice none 0 0,.slice none 0 0]) ?_) info_Prb (by first|rfl|simp [Value.oneCell']) ?_
    ·(with_reducible (repeat' (first|(refine VB.new' ?_;exact(by first|omega|(simp;done)|(simp;omega)))|apply VB.put2|apply VB.put3|apply VB.put5|refine VB.drew ?_|refine VB.far ?_ ?_ _|refine VB.alloc ?_ _|refine VB.gr ?_ HG2.out ?_|refine VB.gr ?_ HG1.out ?_|refine VB.gr ?_ HG0.out ?_|omega|(simp;done)|(simp;omega))))
    simp only [pS]
    refine hK.out _ _ ?_ (fun hQ4=>?_)
    ·have hh:=hQ3;(try dsimp only at hh ⊢);simp only [cell_sets_ne (show w.heap.size≠w1.heap.size by omega),cell_sets_ne (show w.heap.size+1≠w1.heap.size by omega),cell_sets_ne (show w.heap.size+1+1≠w1.heap.size by omega)];exact hh
    clear hK K hQ3
    refine wpAnyH_done (by kernel_rfl) ?_ _
    go_wp2_with fail
    go_meet
    refine⟨w1.heap.size,.slice pa 4 pc,.slice ta 2 tc,.slice sa 4 sc,.slice fa lF.length fc,rfl,by first|omega|(simp;done)|(simp;omega),⟨?_,?_,?_,?_,?_,?_,?_,?_,?_,?_,?_⟩⟩
    ·refine VB.set (cs:= [.slice none 0 0,.slice none 0 0,.slice none 0 0,.int .i64 0,.int .u64 0,.string ⟨#[]⟩,.bool false,.int .u64 0,.string ⟨#[]⟩,.int .u64 0,.string ⟨#[]⟩,.bool false,.int .u64 0,.string ⟨#[]⟩,.int .u64 0,.string ⟨#[]⟩,.bool false,.int .u64 0,.string ⟨#[]⟩,.int .u64 0,.string ⟨#[]⟩,.bool false,.int .u64 0,.string ⟨#[]⟩,.slice none 0 0,.slice none 0 0]) ?_ (prC ⟨.slice pa 4 pc,.slice ta 2 tc,.slice sa 4 sc,1,a,b,c,q,.slice fa lF.length fc,.slice none 0 0⟩) rfl
     (with_reducible (repeat' (first|(refine VB.new' ?_;exact(by first|omega|(simp;done)|(simp;omega)))|apply VB.put2|apply VB.put3|apply VB.put5|refine VB.drew ?_|refine VB.far ?_ ?_ _|refine VB.alloc ?_ _|refine VB.gr ?_ HG2.out ?_|refine VB.gr ?_ HG1.out ?_|refine VB.gr ?_ HG0.out ?_|omega|(simp;done)|(simp;omega))))
    ·exact MS.kp (HMC.out.2.gr (by(with_reducible (repeat' (first|exact Gr.refl _ _|refine Gr.drew ?_|refine Gr.setCell ?_ ?_ _|refine Gr.alloc ?_ ?_ _|refine Gr.trans ?_ (Gr.mono HG2.out ?_)|refine Gr.trans ?_ (Gr.mono HG1.out ?_)|refine Gr.trans ?_ (Gr.mono HG0.out ?_)|omega|(simp;done)|(simp;omega)))))) (Kp.sets _ _ _ _) (fun g e=>by have:=HMC.out.1.1 g e;(try simp at this);omega) (fun g e=>by have:=HMC.out.1.2.1 g e;(try simp at this);omega) (fun g e=>by have:=HMC.out.1.2.2 g e;(try simp at this);omega)
    ·exact SL.mono (Kp.sl (Kp.sets _ _ _ _) (HPF.out.2.gr (by(with_reducible (repeat' (first|exact Gr.refl _ _|refine Gr.drew ?_|refine Gr.setCell ?_ ?_ _|refine Gr.alloc ?_ ?_ _|refine Gr.trans ?_ (Gr.mono HG2.out ?_)|refine Gr.trans ?_ (Gr.mono HG1.out ?_)|refine Gr.trans ?_ (Gr.mono HG0.out ?_)|omega|(simp;done)|(simp;omega)))))) (fun g e=>by have:=HPF.out.1 g e;(try simp at this);simp;omega)) (by first|omega|(simp;done)|(simp;omega))
    ·intro g e
     have:=HMC.out.1.1 g e
     (try simp at this)
     omega
    ·intro g e
     have:=HMC.out.1.2.1 g e
     (try simp at this)
     omega
    ·intro g e
     have:=HMC.out.1.2.2 g e
     (try simp at this)
     omega
    ·intro g e
     have:=HPF.out.1 g e
     (try simp at this)
     omega
    ·exact Gr.sets (by omega) _ _ (by(with_reducible (repeat' (first|exact Gr.refl _ _|refine Gr.drew ?_|refine Gr.setCell ?_ ?_ _|refine Gr.alloc ?_ ?_ _|refine Gr.trans ?_ (Gr.mono HG2.out ?_)|refine Gr.trans ?_ (Gr.mono HG1.out ?_)|refine Gr.trans ?_ (Gr.mono HG0.out ?_)|omega|(simp;done)|(simp;omega)))))
    ·refine VB.fars (by omega) _ _ ?_
     (with_reducible (repeat' (first|(refine VB.new' ?_;exact(by first|omega|(simp;done)|(simp;omega)))|apply VB.put2|apply VB.put3|apply VB.put5|refine VB.drew ?_|refine VB.far ?_ ?_ _|refine VB.alloc ?_ _|exact HB0.out|refine VB.gr ?_ HG2.out ?_|refine VB.gr ?_ HG1.out ?_|refine VB.gr ?_ HG0.out ?_|omega|(simp;done)|(simp;omega))))
    ·refine VB.fars (by omega) _ _ ?_
     (with_reducible (repeat' (first|(refine VB.new' ?_;exact(by first|omega|(simp;done)|(simp;omega)))|apply VB.put2|apply VB.put3|apply VB.put5|refine VB.drew ?_|refine VB.far ?_ ?_ _|refine VB.alloc ?_ _|exact HB1.out|refine VB.gr ?_ HG2.out ?_|refine VB.gr ?_ HG1.out ?_|refine VB.gr ?_ HG0.out ?_|omega|(simp;done)|(simp;omega))))
    ·refine VB.fars (by omega) _ _ ?_
     (with_reducible (repeat' (first|(refine VB.new' ?_;exact(by first|omega|(simp;done)|(simp;omega)))|apply VB.put2|apply VB.put3|apply VB.put5|refine VB.drew ?_|refine VB.far ?_ ?_ _|refine VB.alloc ?_ _|exact HB3.out|refine VB.gr ?_ HG2.out ?_|refine VB.gr ?_ HG1.out ?_|refine VB.gr ?_ HG0.out ?_|omega|(simp;done)|(simp;omega))))
  ·go_simp
   have ha0_0:w.heap.size<w0.heap.size+1:=(by omega)
   have ha0_1:w.heap.size+1<w0.heap.size+1:=(by omega)
   have ha0_2:w.heap.size+1+1<w0.heap.size+1:=(by omega)
   have ha0_3:w.heap.size+1+1+1<w0.heap.size+1:=(by omega)
   (try dsimp only)
   refine hK.out _ _ ?_ (fun hQ1=>?_)
   ·(first|exact trivial|((try dsimp only);simp [go_sem, *]))
   clear hK K hHeld
   try simp only [pS]
   refine wpAnyH_ready (rs:= [1]) (by kernel_rfl) (by simp) ?_
   refine AllReadyH.cons rfl (fun K hK=>?_) AllReadyH.nil
   go_simp
   refine(HCo.out _ (by(with_reducible (repeat' (first|exact Gr.refl _ _|refine Gr.drew ?_|refine Gr.setCell ?_ ?_ _|refine Gr.alloc ?_ ?_ _|refine Gr.trans ?_ (Gr.mono HG0.out ?_)|omega|(simp;done)|(simp;omega)))))).mono ?_
   rintro e w1 ⟨ca,cb,cc,rfl,hMc,hg1⟩
   (try (with_reducible replace hg1:=Gr.of_drew hg1))
   have hsz1:=hg1.size
   (try simp at hsz1)
   have hz1_0:w.heap.size<w1.heap.size:=(by omega)
   have hz1_1:w.heap.size+1<w1.heap.size:=(by omega)
   have hz1_2:w.heap.size+1+1<w1.heap.size:=(by omega)
   have hz1_3:w.heap.size+1+1+1<w1.heap.size:=(by omega)
   have hz1_4:w0.heap.size<w1.heap.size:=(by omega)
   obtain ⟨hc1,hf1⟩:=hg1.cells
   have HG1:=Lib.hid hg1
   clear hg1
   obtain ⟨pa,pc,hpa⟩:=hMc.1.at
   obtain ⟨ta,tc,hta⟩:=hMc.2.1.at
   obtain ⟨sa,sc,hsa⟩:=hMc.2.2.at
   obtain rfl:ca= .slice pa 4 pc:=hpa
   obtain rfl:cb= .slice ta 2 tc:=hta
   obtain rfl:cc= .slice sa 4 sc:=hsa
   have HMC:=Lib.hid (And.intro (own_ms hMc) hMc)
   clear hMc
   (try dsimp only)
   refine hK.out _ _ ?_ (fun hQ2=>?_)
   ·(first|exact trivial|((try dsimp only);simp [go_sem, *]))
   clear hK K hQ1
   try simp only [pS]
   refine wpAnyH_ready (rs:= [8]) (by kernel_rfl) (by simp) ?_
   refine AllReadyH.cons rfl (fun K hK=>?_) AllReadyH.nil
   go_simp
   refine(HSr.out _ (by(with_reducible (repeat' (first|exact Gr.refl _ _|refine Gr.drew ?_|refine Gr.setCell ?_ ?_ _|refine Gr.alloc ?_ ?_ _|refine Gr.trans ?_ (Gr.mono HG1.out ?_)|refine Gr.trans ?_ (Gr.mono HG0.out ?_)|omega|(simp;done)|(simp;omega)))))).mono ?_
   rintro e w2 ⟨vF,rfl,hPF,hg2⟩
   (try (with_reducible replace hg2:=Gr.of_drew hg2))
   have hsz2:=hg2.size
   (try simp at hsz2)
   have hz2_0:w.heap.size<w2.heap.size:=(by omega)
   have hz2_1:w.heap.size+1<w2.heap.size:=(by omega)
   have hz2_2:w.heap.size+1+1<w2.heap.size:=(by omega)
   have hz2_3:w.heap.size+1+1+1<w2.heap.size:=(by omega)
   have hz2_4:w0.heap.size<w2.heap.size:=(by omega)
   obtain ⟨hc2,hf2⟩:=hg2.cells
   have HG2:=Lib.hid hg2
   clear hg2
   obtain ⟨fa,fc,rfl⟩:=hPF.at
   have HPF:=Lib.hid (And.intro (own_sl hPF) hPF)
   clear hPF
   (try dsimp only)
   refine hK.out _ _ ?_ (fun hQ3=>?_)
   ·(first|exact trivial|((try dsimp only);simp [go_sem, *]))
   clear hK K hQ2
   try simp only [pS]
   refine tk 9 (some 31) (.agg #[.slice pa 4 pc,.slice ta 2 tc,.slice sa 4 sc,.int .i64 1,.int .u64 (lowN (sz a.num)),.string (bigS (sz a.num)),.bool (ng a.num),.int .u64 (lowN (fm a)),.string (bigS (fm a)),.int .u64 (lowN (sz b.num)),.string (bigS (sz b.num)),.bool (ng b.num),.int .u64 (lowN (fm b)),.string (bigS (fm b)),.int .u64 (lowN (sz c.num)),.string (bigS (sz c.num)),.bool (ng c.num),.int .u64 (lowN (fm c)),.string (bigS (fm c)),.int .u64 (lowN (sz q.num)),.string (bigS (sz q.num)),.bool (ng q.num),.int .u64 (lowN (fm q)),.string (bigS (fm q)),.slice fa lF.length fc,.slice none 0 0]) ?_
   try simp only [pS]
   refine wpAnyH_ready (rs:= [11]) (by kernel_rfl) (by simp) ?_
   refine AllReadyH.cons (o:=⟨none,_,_,_,_,_⟩) rfl (fun K hK=>?_) AllReadyH.nil
   rw [if_pos (by rfl)]
   refine wp_store_mid 66 _ _ rfl (w0.heap.size) 0 (List.toArray [.slice pa 4 pc,.slice ta 2 tc,.slice sa 4 sc,.int .i64 1,.int .u64 (lowN (sz a.num)),.string (bigS (sz a.num)),.bool (ng a.num),.int .u64 (lowN (fm a)),.string (bigS (fm a)),.int .u64 (lowN (sz b.num)),.string (bigS (sz b.num)),.bool (ng b.num),.int .u64 (lowN (fm b)),.string (bigS (fm b)),.int .u64 (lowN (sz c.num)),.string (bigS (sz c.num)),.bool (ng c.num),.int .u64 (lowN (fm c)),.string (bigS (fm c)),.int .u64 (lowN (sz q.num)),.string (bigS (sz q.num)),.bool (ng q.num),.int .u64 (lowN (fm q)),.string (bigS (fm q)),.slice fa lF.length fc,.slice none 0 0]) rfl rfl (VB.there (cs:= [.slice none 0 0,.slice none 0 0,.slice none 0 0,.int .i64 0,.int .u64 0,.string ⟨#[]⟩,.bool false,.int .u64 0,.string ⟨#[]⟩,.int .u64 0,.string ⟨#[]⟩,.bool false,.int .u64 0,.string ⟨#[]⟩,.int .u64 0,.string ⟨#[]⟩,.bool false,.int .u64 0,.string ⟨#[]⟩,.int .u64 0,.string ⟨#[]⟩,.bool false,.int .u64 0,.string ⟨#[]⟩,.slice none 0 0,.slice none 0 0]) ?_) info_Prb (by first|rfl|simp [Value.oneCell']) ?_
   ·(with_reducible (repeat' (first|(refine VB.new' ?_;exact(by first|omega|(simp;done)|(simp;omega)))|apply VB.put2|apply VB.put3|apply VB.put5|refine VB.drew ?_|refine VB.far ?_ ?_ _|refine VB.alloc ?_ _|refine VB.gr ?_ HG2.out ?_|refine VB.gr ?_ HG1.out ?_|refine VB.gr ?_ HG0.out ?_|omega|(simp;done)|(simp;omega))))
   simp only [pS]
   refine hK.out _ _ ?_ (fun hQ4=>?_)
   ·have hh:=hQ3;(try dsimp only at hh ⊢);simp only [cell_sets_ne (show w.heap.size≠w0.heap.size by omega),cell_sets_ne (show w.heap.size+1≠w0.heap.size by omega),cell_sets_ne (show w.heap.size+1+1≠w0.heap.size by omega)];exact hh
   clear hK K hQ3
   refine wpAnyH_done (by kernel_rfl) ?_ _
   go_wp2_with fail
   go_meet
   refine⟨w0.heap.size,.slice pa 4 pc,.slice ta 2 tc,.slice sa 4 sc,.slice fa lF.length fc,rfl,by first|omega|(simp;done)|(simp;omega),⟨?_,?_,?_,?_,?_,?_,?_,?_,?_,?_,?_⟩⟩
   ·refine VB.set (cs:= [.slice none 0 0,.slice none 0 0,.slice none 0 0,.int .i64 0,.int .u64 0,.string ⟨#[]⟩,.bool false,.int .u64 0,.string ⟨#[]⟩,.int .u64 0,.string ⟨#[]⟩,.bool false,.int .u64 0,.string ⟨#[]⟩,.int .u64 0,.string ⟨#[]⟩,.bool false,.int .u64 0,.string ⟨#[]⟩,.int .u64 0,.string ⟨#[]⟩,.bool false,.int .u64 0,.string ⟨#[]⟩,.slice none 0 0,.slice none 0 0]) ?_ (prC ⟨.slice pa 4 pc,.slice ta 2 tc,.slice sa 4 sc,1,a,b,c,q,.slice fa lF.length fc,.slice none 0 0⟩) rfl
    (with_reducible (repeat' (first|(refine VB.new' ?_;exact(by first|omega|(simp;done)|(simp;omega)))|apply VB.put2|apply VB.put3|apply VB.put5|refine VB.drew ?_|refine VB.far ?_ ?_ _|refine VB.alloc ?_ _|refine VB.gr ?_ HG2.out ?_|refine VB.gr ?_ HG1.out ?_|refine VB.gr ?_ HG0.out ?_|omega|(simp;done)|(simp;omega))))
   ·exact MS.kp (HMC.out.2.gr (by(with_reducible (repeat' (first|exact Gr.refl _ _|refine Gr.drew ?_|refine Gr.setCell ?_ ?_ _|refine Gr.alloc ?_ ?_ _|refine Gr.trans ?_ (Gr.mono HG2.out ?_)|refine Gr.trans ?_ (Gr.mono HG1.out ?_)|refine Gr.trans ?_ (Gr.mono HG0.out ?_)|omega|(simp;done)|(simp;omega)))))) (Kp.sets _ _ _ _) (fun g e=>by have:=HMC.out.1.1 g e;(try simp at this);omega) (fun g e=>by have:=HMC.out.1.2.1 g e;(try simp at this);omega) (fun g e=>by have:=HMC.out.1.2.2 g e;(try simp at this);omega)
   ·exact SL.mono (Kp.sl (Kp.sets _ _ _ _) (HPF.out.2.gr (by(with_reducible (repeat' (first|exact Gr.refl _ _|refine Gr.drew ?_|refine Gr.setCell ?_ ?_ _|refine Gr.alloc ?_ ?_ _|refine Gr.trans ?_ (Gr.mono HG2.out ?_)|refine Gr.trans ?_ (Gr.mono HG1.out ?_)|refine Gr.trans ?_ (Gr.mono HG0.out ?_)|omega|(simp;done)|(simp;omega)))))) (fun g e=>by have:=HPF.out.1 g e;(try simp at this);simp;omega)) (by first|omega|(simp;done)|(simp;omega))
   ·intro g e
    have:=HMC.out.1.1 g e
    (try simp at this)
    omega
   ·intro g e
    have:=HMC.out.1.2.1 g e
    (try simp at this)
    omega
   ·intro g e
    have:=HMC.out.1.2.2 g e
    (try simp at this)
    omega
   ·intro g e
    have:=HPF.out.1 g e
    (try simp at this)
    omega
   ·exact Gr.sets (by omega) _ _ (by(with_reducible (repeat' (first|exact Gr.refl _ _|refine Gr.drew ?_|refine Gr.setCell ?_ ?_ _|refine Gr.alloc ?_ ?_ _|refine Gr.trans ?_ (Gr.mono HG2.out ?_)|refine Gr.trans ?_ (Gr.mono HG1.out ?_)|refine Gr.trans ?_ (Gr.mono HG0.out ?_)|omega|(simp;done)|(simp;omega)))))
   ·refine VB.fars (by omega) _ _ ?_
    (with_reducible (repeat' (first|(refine VB.new' ?_;exact(by first|omega|(simp;done)|(simp;omega)))|apply VB.put2|apply VB.put3|apply VB.put5|refine VB.drew ?_|refine VB.far ?_ ?_ _|refine VB.alloc ?_ _|exact HB0.out|refine VB.gr ?_ HG2.out ?_|refine VB.gr ?_ HG1.out ?_|refine VB.gr ?_ HG0.out ?_|omega|(simp;done)|(simp;omega))))
   ·refine VB.fars (by omega) _ _ ?_
    (with_reducible (repeat' (first|(refine VB.new' ?_;exact(by first|omega|(simp;done)|(simp;omega)))|apply VB.put2|apply VB.put3|apply VB.put5|refine VB.drew ?_|refine VB.far ?_ ?_ _|refine VB.alloc ?_ _|exact HB1.out|refine VB.gr ?_ HG2.out ?_|refine VB.gr ?_ HG1.out ?_|refine VB.gr ?_ HG0.out ?_|omega|(simp;done)|(simp;omega))))
   ·refine VB.fars (by omega) _ _ ?_
    (with_reducible (repeat' (first|(refine VB.new' ?_;exact(by first|omega|(simp;done)|(simp;omega)))|apply VB.put2|apply VB.put3|apply VB.put5|refine VB.drew ?_|refine VB.far ?_ ?_ _|refine VB.alloc ?_ _|exact HB3.out|refine VB.gr ?_ HG2.out ?_|refine VB.gr ?_ HG1.out ?_|refine VB.gr ?_ HG0.out ?_|omega|(simp;done)|(simp;omega))))
 case rest=>
  obtain ⟨tb,ca,cb,cc,vF,rfl,htb,hS⟩:=hcut
  have HV:=Lib.hid hS.v
  have HM:=Lib.hid hS.m
  have HF:=Lib.hid hS.f
  have HN:=Lib.hid (And.intro hS.n1 (And.intro hS.n2 (And.intro hS.n3 hS.n4)))
  have HGX:=Lib.hid hS.gr
  have htw:w.heap.size+1+1+1<tb:=by omega
  clear HB0 HB1 HB2 HB3 HG0 hz0_0 hz0_1 hz0_2 hz0_3 HCo HSr
  have HB0:=Lib.hid hS.b0
  have HB1:=Lib.hid hS.b1
  have HB3:=Lib.hid hS.b3
  have hszx:=hS.gr.size
  have htx:=hS.v.lt
  have hbx0:=hS.b0.lt
  have hbx1:=hS.b1.lt
  have hbx3:=hS.b3.lt
  obtain ⟨pa,pc,hpa⟩:=hS.m.1.at
  obtain ⟨ta,tc,hta⟩:=hS.m.2.1.at
  obtain ⟨sa,sc,hsa⟩:=hS.m.2.2.at
  obtain ⟨fa,fc,hfa⟩:=hS.f.at
  obtain rfl:ca= .slice pa 4 pc:=hpa
  obtain rfl:cb= .slice ta 2 tc:=hta
  obtain rfl:cc= .slice sa 4 sc:=hsa
  subst hfa
  clear hS
  obtain ⟨x0,x1,x2,_⟩:=HB0.out.three
  go_wp2_with fail
  clear x0 x1 x2
  go_loopw [35,15] (fun s mk wr=> ∃n:Nat,n≤4∧s= .int .i64 n∧Hid (SL natC 1 3 wr wc.heap.size mk (List.replicate n 0))∧Hid (Gr wc.heap.size wc wr)) (fun s _ _=>4 - (intOf s).toNat)
  case atStart=>exact⟨0,by omega,rfl,Lib.hid SL.nil,Lib.hid (Gr.refl _ _)⟩
  case round=>
   obtain ⟨n,hn,rfl,HS,HGL⟩:=hrel
   have hszr:=HGL.out.size
   rcases(show n=0∨n=1∨n=2∨n=3∨n=4 by omega)with rfl|rfl|rfl|rfl|rfl
   ·obtain ⟨v0,v1,v2⟩:=(HR.out.gr (HGX.out.trans (HGL.out.mono hszx)) hgs).fTri (j:=0) (by simp [rmS]) rfl
    simp [rmS]at v0 v1 v2
    obtain ⟨ma,mc,rfl⟩:=HS.out.at
    have HS2:=Lib.hid (show SL natC 1 3 _ wc.heap.size (.slice ma 0 mc) []from HS.out)
    simp only [List.length_replicate,show((0:Nat):Int)=0 from rfl]
    go_wp2_with (at_builtin;refine wpList_appS _ rfl _ _ 84 rfl (wc.heap.size) i0 _ 8 Tryz.underlying84 HI.out.1 HI.out.2.1 HI.out.2.2.1 HI.out.2.2.2 rfl (by decide) natC_len natC_one _ ([]) rfl (SL.gr HS2.out (by(with_reducible (repeat' (first|exact Gr.refl _ _|refine Gr.drew ?_|refine Gr.setCell ?_ ?_ _|refine Gr.alloc ?_ ?_ _|omega|(simp;done)|(simp;omega)))))) (_) _ [0] 1 rfl rfl (RC.new1' (by simp) rfl) (by simp [maxLen]) (by simp) (by first|(simp;done)|(simp;omega)) ?_;intro v4 w4 hS4 hkp4 hown4;have HS4:=Lib.hid (And.intro hS4 (And.intro hkp4 hown4));clear hS4 hkp4 hown4)
    go_roundw
    case rel=>exact⟨1,by omega,by go_num,Lib.hid HS4.out.1,Lib.hid (Gr.trans (Gr.alloc (Gr.alloc HGL.out (by omega) _) (by simp;omega) _) (HS4.out.2.1.gr (B:=wc.heap.size) (fun b e=>by have:=HS2.out.own_ge e;omega) (by simp;omega)))⟩
    case measure=>simp [intOf]
   ·obtain ⟨v0,v1,v2⟩:=(HR.out.gr (HGX.out.trans (HGL.out.mono hszx)) hgs).fTri (j:=1) (by simp [rmS]) rfl
    simp [rmS]at v0 v1 v2
    obtain ⟨ma,mc,rfl⟩:=HS.out.at
    have HS2:=Lib.hid (show SL natC 1 3 _ wc.heap.size (.slice ma 1 mc) [0]from HS.out)
    simp only [List.length_replicate,show((1:Nat):Int)=1 from rfl]
    go_wp2_with (at_builtin;refine wpList_appS _ rfl _ _ 84 rfl (wc.heap.size) i0 _ 8 Tryz.underlying84 HI.out.1 HI.out.2.1 HI.out.2.2.1 HI.out.2.2.2 rfl (by decide) natC_len natC_one _ ([0]) rfl (SL.gr HS2.out (by(with_reducible (repeat' (first|exact Gr.refl _ _|refine Gr.drew ?_|refine Gr.setCell ?_ ?_ _|refine Gr.alloc ?_ ?_ _|omega|(simp;done)|(simp;omega)))))) (_) _ [0] 1 rfl rfl (RC.new1' (by simp) rfl) (by simp [maxLen]) (by simp) (by first|(simp;done)|(simp;omega)) ?_;intro v4 w4 hS4 hkp4 hown4;have HS4:=Lib.hid (And.intro hS4 (And.intro hkp4 hown4));clear hS4 hkp4 hown4)
    go_roundw
    case rel=>exact⟨2,by omega,by go_num,Lib.hid HS4.out.1,Lib.hid (Gr.trans (Gr.alloc (Gr.alloc HGL.out (by omega) _) (by simp;omega) _) (HS4.out.2.1.gr (B:=wc.heap.size) (fun b e=>by have:=HS2.out.own_ge e;omega) (by simp;omega)))⟩
    case measure=>simp [intOf]
   ·obtain ⟨v0,v1,v2⟩:=(HR.out.gr (HGX.out.trans (HGL.out.mono hszx)) hgs).fTri (j:=2) (by simp [rmS]) rfl
    simp [rmS]at v0 v1 v2
    obtain ⟨ma,mc,rfl⟩:=HS.out.at
    have HS2:=Lib.hid (show SL natC 1 3 _ wc.heap.size (.slice ma 2 mc) [0,0]from HS.out)
    simp only [List.length_replicate,show((2:Nat):Int)=2 from rfl]
    go_wp2_with (at_builtin;refine wpList_appS _ rfl _ _ 84 rfl (wc.heap.size) i0 _ 8 Tryz.underlying84 HI.out.1 HI.out.2.1 HI.out.2.2.1 HI.out.2.2.2 rfl (by decide) natC_len natC_one _ ([0,0]) rfl (SL.gr HS2.out (by(with_reducible (repeat' (first|exact Gr.refl _ _|refine Gr.drew ?_|refine Gr.setCell ?_ ?_ _|refine Gr.alloc ?_ ?_ _|omega|(simp;done)|(simp;omega)))))) (_) _ [0] 1 rfl rfl (RC.new1' (by simp) rfl) (by simp [maxLen]) (by simp) (by first|(simp;done)|(simp;omega)) ?_;intro v4 w4 hS4 hkp4 hown4;have HS4:=Lib.hid (And.intro hS4 (And.intro hkp4 hown4));clear hS4 hkp4 hown4)
    go_roundw
    case rel=>exact⟨3,by omega,by go_num,Lib.hid HS4.out.1,Lib.hid (Gr.trans (Gr.alloc (Gr.alloc HGL.out (by omega) _) (by simp;omega) _) (HS4.out.2.1.gr (B:=wc.heap.size) (fun b e=>by have:=HS2.out.own_ge e;omega) (by simp;omega)))⟩
    case measure=>simp [intOf]
   ·obtain ⟨v0,v1,v2⟩:=(HR.out.gr (HGX.out.trans (HGL.out.mono hszx)) hgs).fTri (j:=3) (by simp [rmS]) rfl
    simp [rmS]at v0 v1 v2
    obtain ⟨ma,mc,rfl⟩:=HS.out.at
    have HS2:=Lib.hid (show SL natC 1 3 _ wc.heap.size (.slice ma 3 mc) [0,0,0]from HS.out)
    simp only [List.length_replicate,show((3:Nat):Int)=3 from rfl]
    go_wp2_with (at_builtin;refine wpList_appS _ rfl _ _ 84 rfl (wc.heap.size) i0 _ 8 Tryz.underlying84 HI.out.1 HI.out.2.1 HI.out.2.2.1 HI.out.2.2.2 rfl (by decide) natC_len natC_one _ ([0,0,0]) rfl (SL.gr HS2.out (by(with_reducible (repeat' (first|exact Gr.refl _ _|refine Gr.drew ?_|refine Gr.setCell ?_ ?_ _|refine Gr.alloc ?_ ?_ _|omega|(simp;done)|(simp;omega)))))) (_) _ [0] 1 rfl rfl (RC.new1' (by simp) rfl) (by simp [maxLen]) (by simp) (by first|(simp;done)|(simp;omega)) ?_;intro v4 w4 hS4 hkp4 hown4;have HS4:=Lib.hid (And.intro hS4 (And.intro hkp4 hown4));clear hS4 hkp4 hown4)
    go_roundw
    case rel=>exact⟨4,by omega,by go_num,Lib.hid HS4.out.1,Lib.hid (Gr.trans (Gr.alloc (Gr.alloc HGL.out (by omega) _) (by simp;omega) _) (HS4.out.2.1.gr (B:=wc.heap.size) (fun b e=>by have:=HS2.out.own_ge e;omega) (by simp;omega)))⟩
    case measure=>simp [intOf]
   ·obtain ⟨gm,cm,rfl,hgm,hcm,hmx,hshm,hRm⟩:=HS.out.block (by simp)
    have hgml:=hshm.lt
    have HZ:=Lib.hid (show SL natC 1 3 wr wc.heap.size (.slice (some ⟨gm,0,none⟩) 4 cm) zL from HS.out)
    have c0:=hRm 0 (by simp) 0 (.int .i64 0) rfl
    simp only [Nat.zero_mul,Nat.zero_add]at c0
    clear hshm hRm HS hmx
    simp only [List.length_replicate,show((4:Nat):Int)=4 from rfl]
    go_wp2_with fail
    refine(sort_zeros gm cm _ _ HZ.out).mono ?_
    rintro e w5 ⟨rfl,hg5⟩
    have HG5:=Lib.hid hg5
    have hs5:=hg5.size
    go_wp2_with fail
    refine(compact_zeros gm cm wc.heap.size _ (HZ.out.gr hg5)).mono ?_
    rintro e w6 ⟨rfl,hg6⟩
    have hs6:=hg6.size
    have HK6:=Lib.hid (((HGL.out.trans (hg5.mono (by omega))).trans (hg6.mono (by omega))).kp (some tb))
    have c6:w6.cell? ⟨gm,0,none⟩=some (.int .i64 0):=(hg6.cell (p:=⟨gm,0,none⟩) (by show gm< _;omega)).trans ((hg5.cell (p:=⟨gm,0,none⟩) hgml).trans c0)
    have HC6:=Lib.hid c6
    have HV6:=Lib.hid (HV.out.kp (((HGL.out.trans (hg5.mono (by omega))).trans (hg6.mono (by omega))).kp none) (by simp))
    have hs7:gm<w6.heap.size:=by omega
    have htgm:tb<gm:=by omega
    clear hg5 hg6 HG5 HZ c0 c6 HGL
    go_wp2_with fail
    rcases HD.out with⟨fb,lg,rfl,hFx,hAd,hCh,hR⟩|⟨l0,l1,rfl,hFl,hCh,hR⟩
    ·have HFx:=Lib.hid hFx
     have HAd:=Lib.hid hAd
     have HCh:=Lib.hid hCh
     have HR2:=Lib.hid hR
     clear hFx hAd hCh hR HD
     go_loopw [50] (fun s wr=> ∃n:Nat,n≤1∧s= .int .i64 n∧Hid (wr.cell? ⟨gm,0,none⟩=some (.int .i64 0))∧Hid (gm<wr.heap.size)∧Hid (Kp wc wr (some tb))∧Hid (n=0→VB wr tb (prC ⟨.slice pa 4 pc,.slice ta 2 tc,.slice sa 4 sc,1,a,b,c,q,.slice fa lF.length fc,.slice none 0 0⟩))∧Hid (n=1→∃gv u,VB wr tb (prC ⟨.slice pa 4 pc,.slice ta 2 tc,.slice sa 4 sc,1,a,b,c,q,.slice fa lF.length fc,gv⟩)∧SL gvC 5 71 wr (tb+1) gv [⟨0,true,u,.slice none 0 0,.slice none 0 0⟩]∧PL wr (tb+1) u lg)) (fun s _=>1 - (intOf s).toNat)
     case atStart=>exact⟨0,by omega,rfl,HC6,Lib.hid hs7,HK6,Lib.hid (fun _=>HV6.out),Lib.hid (fun h=>by omega)⟩
     case round=>
      clear HC6 HK6 HV6 hs7 hs5 hs6 hszr hgml
      obtain ⟨n,hn,rfl,HC,HL,HK,H0,H1⟩:=hrel
      have hszr:=HK.out.g.size
      have hgml:=HL.out
      have HGW:=Lib.hid (HGX.out.trans (HK.out.gr (B:=w.heap.size) (fun b e=>by cases e;omega) hszx))
      rcases(show n=0∨n=1 by omega)with rfl|rfl
      ·have HP:=Lib.hid (H0.out rfl)
       clear H0 H1
       have c0:=HC.out
       simp only [show((0:Nat):Int)=0 from rfl]
       have hbt:tb<wr.heap.size:=by omega
       have q1:¬wr.heap.size=tb:=by omega
       have q2:¬tb=wr.heap.size:=by omega
       have q3:¬gm=wr.heap.size:=by omega
       go_wp2_with fail
       have hfb:=HFx.out.lt
       refine(contains_zero fb _ (HFx.out.gr (B:=w.heap.size) (by(with_reducible (repeat' (first|exact Gr.refl _ _|refine Gr.drew ?_|refine Gr.setCell ?_ ?_ _|refine Gr.alloc ?_ ?_ _|refine Gr.trans ?_ (Gr.mono HGW.out ?_)|omega|(simp;done)|(simp;omega))))) hfb)).mono ?_
       rintro e w7 ⟨rfl,hg7⟩
       have hs7:=hg7.size
       (try simp at hs7)
       have HG7:=Lib.hid hg7
       clear hg7
       have hw7:wr.heap.size<w7.heap.size:=by omega
       have HE7:=Lib.hid (show VB w7 wr.heap.size [.int .i64 0,.bool false,.slice none 0 0,.slice none 0 0,.slice none 0 0]from by(with_reducible (repeat' (first|(refine VB.new' ?_;exact(by first|omega|(simp;done)|(simp;omega)))|apply VB.put2|apply VB.put3|apply VB.put5|refine VB.drew ?_|refine VB.far ?_ ?_ _|refine VB.alloc ?_ _|refine VB.gr ?_ HG7.out ?_|omega|(simp;done)|(simp;omega)))))
       have HGW7:=Lib.hid (show Gr w.heap.size w w7 from by(with_reducible (repeat' (first|exact Gr.refl _ _|refine Gr.drew ?_|refine Gr.setCell ?_ ?_ _|refine Gr.alloc ?_ ?_ _|refine Gr.trans ?_ (Gr.mono HG7.out ?_)|refine Gr.trans ?_ (Gr.mono HGW.out ?_)|omega|(simp;done)|(simp;omega)))))
       have HP7:=Lib.hid (show VB w7 tb (prC ⟨.slice pa 4 pc,.slice ta 2 tc,.slice sa 4 sc,1,a,b,c,q,.slice fa lF.length fc,.slice none 0 0⟩)from by(with_reducible (repeat' (first|(refine VB.new' ?_;exact(by first|omega|(simp;done)|(simp;omega)))|apply VB.put2|apply VB.put3|apply VB.put5|refine VB.drew ?_|refine VB.far ?_ ?_ _|refine VB.alloc ?_ _|exact HP.out|refine VB.gr ?_ HG7.out ?_|omega|(simp;done)|(simp;omega)))))
       go_wp2_with fail
       refine(HAd.out _ HGW7.out).mono ?_
       rintro e w8 ⟨u,rfl,hPu,hg8⟩
       obtain ⟨ua,uc,rfl⟩:=hPu.at
       have HPU:=Lib.hid hPu
       have hs8:=hg8.size
       have HG8:=Lib.hid hg8
       have HE8:=Lib.hid (show VB w8 wr.heap.size [.int .i64 0,.bool false,.slice none 0 0,.slice none 0 0,.slice none 0 0]from by(with_reducible (repeat' (first|(refine VB.new' ?_;exact(by first|omega|(simp;done)|(simp;omega)))|apply VB.put2|apply VB.put3|apply VB.put5|refine VB.drew ?_|refine VB.far ?_ ?_ _|refine VB.alloc ?_ _|exact HE7.out|refine VB.gr ?_ HG8.out ?_|omega|(simp;done)|(simp;omega)))))
       have HP8:=Lib.hid (show VB w8 tb (prC ⟨.slice pa 4 pc,.slice ta 2 tc,.slice sa 4 sc,1,a,b,c,q,.slice fa lF.length fc,.slice none 0 0⟩)from by(with_reducible (repeat' (first|(refine VB.new' ?_;exact(by first|omega|(simp;done)|(simp;omega)))|apply VB.put2|apply VB.put3|apply VB.put5|refine VB.drew ?_|refine VB.far ?_ ?_ _|refine VB.alloc ?_ _|exact HP7.out|refine VB.gr ?_ HG8.out ?_|omega|(simp;done)|(simp;omega)))))
       clear hg8
       obtain ⟨e0,e1,e2,e3,e4,f0,f1,f2,f3,f4⟩:=HE8.out.five
       have t25:=HP8.out.c 25 (.slice none 0 0) rfl
       have hq7:tb<w8.heap.size:=by omega
       have hq8:wr.heap.size<w8.heap.size:=by omega
       go_wp2_with (at_builtin;refine wpList_appS _ rfl _ _ 64 rfl (w8.heap.size) i1 _ 88 Tryz.underlying64 HJ.out.1 HJ.out.2.1 HJ.out.2.2.1 HJ.out.2.2.2 rfl (by decide) g5C_len g5C_one (.slice none 0 0) ([]) rfl (SL.nil) (_) _ [⟨[.int .i64 0,.bool true,.slice ua lg.length uc,.slice none 0 0,.slice none 0 0],by simp [Value.oneCell']⟩] 1 rfl rfl (RC.new1' (by simp) rfl) (by simp [maxLen]) (by simp) (by first|(simp;done)|(simp;omega)) ?_;intro v9 w9 hS9 hkp9 hown9;have HP9:=Lib.hid (show VB w9 tb (prC ⟨.slice pa 4 pc,.slice ta 2 tc,.slice sa 4 sc,1,a,b,c,q,.slice fa lF.length fc,.slice none 0 0⟩)from VB.kp (by(with_reducible (repeat' (first|(refine VB.new' ?_;exact(by first|omega|(simp;done)|(simp;omega)))|apply VB.put2|apply VB.put3|apply VB.put5|refine VB.drew ?_|refine VB.far ?_ ?_ _|refine VB.alloc ?_ _|exact HP8.out|omega|(simp;done)|(simp;omega))))) hkp9 (by simp [Value.ownBlock]));have t25:=HP9.out.c 25 (.slice none 0 0) rfl;have tf25:=HP9.out.f 25 (by simp);obtain ⟨va,vc,rfl⟩:=hS9.at;have HS9:=Lib.hid (And.intro hS9 (And.intro hkp9 hown9));clear hS9 hkp9 hown9)
       skip
       go_roundw
       case rel=>
        have K2:=Kp.trans (Kp.trans ((show Gr wr.heap.size wr _ from by(with_reducible (repeat' (first|exact Gr.refl _ _|refine Gr.drew ?_|refine Gr.setCell ?_ ?_ _|refine Gr.alloc ?_ ?_ _|refine Gr.trans ?_ (Gr.mono HG8.out ?_)|refine Gr.trans ?_ (Gr.mono HG7.out ?_)|omega|(simp;done)|(simp;omega))))).kp (some tb)) (Kp.weak (row:=some tb) HS9.out.2.1)) (Kp.sets _ tb 25 [.slice va 1 vc])
        refine⟨1,by omega,by go_num,Lib.hid ((K2.cell (b:=gm) (o:=0) hgml (by simp;omega)).trans HC.out),Lib.hid (Nat.lt_of_lt_of_le hgml K2.g.size),Lib.hid (HK.out.trans K2),Lib.hid (fun h=>by omega),Lib.hid (fun _=>⟨.slice va 1 vc,.slice ua lg.length uc,VB.part 25 [.slice va 1 vc] HP9.out rfl (by simp),?_,?_⟩)⟩
        ·exact SL.mono (SL.far (p:=⟨tb,25,none⟩) (SL.one (enc2:=gvC) (y:=⟨0,true,.slice ua lg.length uc,.slice none 0 0,.slice none 0 0⟩) (show SL g5C 5 71 w9 w8.heap.size (.slice va 1 vc) [⟨[.int .i64 0,.bool true,.slice ua lg.length uc,.slice none 0 0,.slice none 0 0],by simp [Value.oneCell']⟩]from HS9.out.1) rfl) (by show tb<w8.heap.size;omega) _) (by omega)
        ·exact SL.mono (SL.far (p:=⟨tb,25,none⟩) (Kp.sl HS9.out.2.1 (SL.gr (SL.far (p:=⟨wr.heap.size,2,none⟩) (SL.far (p:=⟨wr.heap.size,1,none⟩) (HPU.out) (by show wr.heap.size< _;omega) _) (by show wr.heap.size< _;omega) _) (by(with_reducible (repeat' (first|exact Gr.refl _ _|refine Gr.drew ?_|refine Gr.setCell ?_ ?_ _|refine Gr.alloc ?_ ?_ _|omega|(simp;done)|(simp;omega)))))) (fun g _=>by simp [Value.ownBlock])) (by show tb< _;omega) _) (by omega)
       case measure=>simp [intOf]
      ·obtain ⟨gv,u,hV,hG,hU⟩:=H1.out rfl
       obtain ⟨va,vc,rfl⟩:=hG.at
       have HVp:=Lib.hid (show VB wr tb (prC ⟨.slice pa 4 pc,.slice ta 2 tc,.slice sa 4 sc,1,a,b,c,q,.slice fa lF.length fc,.slice va 1 vc⟩)from hV)
       have HGv:=Lib.hid (And.intro (show SL gvC 5 71 wr (tb+1) (.slice va 1 vc) [⟨0,true,u,.slice none 0 0,.slice none 0 0⟩]from hG) hU)
       clear H0 H1 hV hG hU
       have t25:=HVp.out.c 25 (.slice va 1 vc) rfl
       simp only [show((1:Nat):Int)=1 from rfl]
       have hbt:tb<wr.heap.size:=by omega
       go_wp2_with fail
       refine(clip_Gv _ _ (tb+1) _ HGv.out.1.sr).mono ?_
       rintro e w7 ⟨v7,rfl,hS7,hg7⟩
       obtain ⟨xa,xc,hxa⟩:=hS7.at
       obtain rfl:v7= .slice xa 1 xc:=hxa
       have HS7:=Lib.hid hS7
       have hs7:=hg7.size
       have HV7:=Lib.hid (show VB w7 tb (prC ⟨.slice pa 4 pc,.slice ta 2 tc,.slice sa 4 sc,1,a,b,c,q,.slice fa lF.length fc,.slice va 1 vc⟩)from HVp.out.gr hg7 hbt)
       have y25:=HV7.out.c 25 (.slice va 1 vc) rfl
       have yf25:=HV7.out.f 25 (by simp)
       have HV8:=Lib.hid (show VB (w7.setCell ⟨tb,25,none⟩ (.slice xa 1 xc)) tb (prC ⟨.slice pa 4 pc,.slice ta 2 tc,.slice sa 4 sc,1,a,b,c,q,.slice fa lF.length fc,.slice xa 1 xc⟩)from VB.part 25 [.slice xa 1 xc] HV7.out rfl (by simp))
       have HK8:=Lib.hid (show Kp wc (w7.setCell ⟨tb,25,none⟩ (.slice xa 1 xc)) (some tb)from(HK.out.trans (hg7.kp (some tb))).trans (Kp.sets _ tb 25 [.slice xa 1 xc]))
       have HG7:=Lib.hid hg7
       clear hS7 hg7
       go_wp2_with (refine wpList_load_mid rfl 66 _ rfl tb 0 rfl (prC ⟨.slice pa 4 pc,.slice ta 2 tc,.slice sa 4 sc,1,a,b,c,q,.slice fa lF.length fc,.slice xa 1 xc⟩) _ (VB.range HV8.out) Tryz.underlying66 rfl info_Prb ?_)
       have HMx:=Lib.hid (MS.kp HM.out HK8.out HN.out.1 HN.out.2.1 HN.out.2.2.1)
       have HFx2:=Lib.hid (Kp.sl HK8.out HF.out (fun g e e2=>HN.out.2.2.2 g e (by cases e2;rfl)))
       have HGx:=Lib.hid (SR.far (p:=⟨tb,25,none⟩) HS7.out (by show tb<tb+1;omega) (.slice xa 1 xc))
       have HUx:=Lib.hid (SL.mono (SL.far (p:=⟨tb,25,none⟩) (SL.gr HGv.out.2 HG7.out) (by show tb<tb+1;omega) (.slice xa 1 xc)) (Nat.zero_le _))
       refine(HCh.out _ ⟨.slice pa 4 pc,.slice ta 2 tc,.slice sa 4 sc,1,a,b,c,q,.slice fa lF.length fc,.slice xa 1 xc⟩ u HMx.out rfl rfl rfl rfl rfl (HFx2.out.mono (Nat.zero_le _)) (HGx.out.mono (Nat.zero_le _)) HUx.out).mono ?_
       rintro e w9 ⟨rfl,hg9⟩
       have hs9:=hg9.size
       (try simp at hs9)
       have HB9:=Lib.hid (show VB w9 (w.heap.size+1+1+1) [.slice none 0 0,.slice none 0 0,.slice none 0 0,.int .i64 0,.int .u64 0,.string ⟨#[]⟩,.bool false,.int .u64 0,.string ⟨#[]⟩,.int .u64 0,.string ⟨#[]⟩,.bool false,.int .u64 0,.string ⟨#[]⟩,.int .u64 0,.string ⟨#[]⟩,.bool false,.int .u64 0,.string ⟨#[]⟩,.int .u64 0,.string ⟨#[]⟩,.bool false,.int .u64 0,.string ⟨#[]⟩,.slice none 0 0,.slice none 0 0]from(HB3.out.kp HK8.out (by simp;omega)).gr hg9 (by simp;omega))
       have HV9:=Lib.hid (show VB w9 tb (prC ⟨.slice pa 4 pc,.slice ta 2 tc,.slice sa 4 sc,1,a,b,c,q,.slice fa lF.length fc,.slice xa 1 xc⟩)from HV8.out.gr hg9 (by simp;omega))
       have HG9:=Lib.hid (show Gr w.heap.size w w9 from(HGX.out.trans (HK8.out.gr (B:=w.heap.size) (fun b e=>by cases e;omega) hszx)).trans (hg9.mono (by simp;omega)))
       have HH9:=Lib.hid hg9
       clear hg9
       go_wp2_with (first|(refine wpList_load_mid rfl 66 _ rfl tb 0 rfl (prC ⟨.slice pa 4 pc,.slice ta 2 tc,.slice sa 4 sc,1,a,b,c,q,.slice fa lF.length fc,.slice xa 1 xc⟩) _ (VB.range HV9.out) Tryz.underlying66 rfl info_Prb ?_)|(refine wpList_stowK rfl 66 _ _ rfl (w.heap.size+1+1+1) (prC ⟨.slice pa 4 pc,.slice ta 2 tc,.slice sa 4 sc,1,a,b,c,q,.slice fa lF.length fc,.slice xa 1 xc⟩) [.slice none 0 0,.slice none 0 0,.slice none 0 0,.int .i64 0,.int .u64 0,.string ⟨#[]⟩,.bool false,.int .u64 0,.string ⟨#[]⟩,.int .u64 0,.string ⟨#[]⟩,.bool false,.int .u64 0,.string ⟨#[]⟩,.int .u64 0,.string ⟨#[]⟩,.bool false,.int .u64 0,.string ⟨#[]⟩,.int .u64 0,.string ⟨#[]⟩,.bool false,.int .u64 0,.string ⟨#[]⟩,.slice none 0 0,.slice none 0 0] rfl rfl HB9.out rfl info_Prb (by simp [Value.oneCell']) ?_;intro wf HVf hkf;have HKf:=Lib.hid hkf;clear hkf))
       refine ret_row2 (g:=w.heap.size+1+1+1) Tryz.results18 rfl rfl HVf Tryz.underlying66 rfl info_Prb rfl (HR2.out _ _ ⟨⟨.slice pa 4 pc,.slice ta 2 tc,.slice sa 4 sc,1,a,b,c,q,.slice fa lF.length fc,.slice xa 1 xc⟩,u,rfl,by simp [Value.oneCell'],?_,?_,?_⟩)
       ·exact SL.mono (Kp.sl HKf.out (SL.gr HFx2.out HH9.out) (fun g e e2=>by have:=HFx2.out.own_ge e;cases e2;omega)) (by omega)
       ·exact SR.mono (SR.kp (SR.gr HGx.out HH9.out) HKf.out (fun g e e2=>by have:=HGx.out.own_lt e;cases e2;omega)) (by omega)
       ·exact HG9.out.trans (HKf.out.gr (B:=w.heap.size) (fun b e=>by cases e;omega) (by have:=HG9.out.size;omega))
    ·have HFl:=Lib.hid hFl
     have HCh:=Lib.hid hCh
     have HR2:=Lib.hid hR
     clear hFl hCh hR HD
     go_loopw [50] (fun s wr=> ∃n:Nat,n≤1∧s= .int .i64 n∧Hid (wr.cell? ⟨gm,0,none⟩=some (.int .i64 0))∧Hid (gm<wr.heap.size)∧Hid (Kp wc wr (some tb))∧Hid (n=0→VB wr tb (prC ⟨.slice pa 4 pc,.slice ta 2 tc,.slice sa 4 sc,1,a,b,c,q,.slice fa lF.length fc,.slice none 0 0⟩))∧Hid (n=1→∃gv g0 g1,VB wr tb (prC ⟨.slice pa 4 pc,.slice ta 2 tc,.slice sa 4 sc,1,a,b,c,q,.slice fa lF.length fc,gv⟩)∧SL gvC 5 71 wr (tb+1) gv [⟨0,false,.slice none 0 0,g0,g1⟩]∧PL wr (tb+1) g0 l0∧PL wr (tb+1) g1 l1)) (fun s _=>1 - (intOf s).toNat)
     case atStart=>exact⟨0,by omega,rfl,HC6,Lib.hid hs7,HK6,Lib.hid (fun _=>HV6.out),Lib.hid (fun h=>by omega)⟩
     case round=>
      clear HC6 HK6 HV6 hs7 hs5 hs6 hszr hgml
      obtain ⟨n,hn,rfl,HC,HL,HK,H0,H1⟩:=hrel
      have hszr:=HK.out.g.size
      have hgml:=HL.out
      have HGW:=Lib.hid (HGX.out.trans (HK.out.gr (B:=w.heap.size) (fun b e=>by cases e;omega) hszx))
      rcases(show n=0∨n=1 by omega)with rfl|rfl
      ·have HP:=Lib.hid (H0.out rfl)
       clear H0 H1
       have c0:=HC.out
       simp only [show((0:Nat):Int)=0 from rfl]
       have hbt:tb<wr.heap.size:=by omega
       have q1:¬wr.heap.size=tb:=by omega
       have q2:¬tb=wr.heap.size:=by omega
       have q3:¬gm=wr.heap.size:=by omega
       go_wp2_with fail
       refine(contains_nil _).mono ?_
       rintro e w7 ⟨rfl,hg7⟩
       have hs7:=hg7.size
       (try simp at hs7)
       have HG7:=Lib.hid hg7
       clear hg7
       have hw7:wr.heap.size<w7.heap.size:=by omega
       have HE7:=Lib.hid (show VB w7 wr.heap.size [.int .i64 0,.bool false,.slice none 0 0,.slice none 0 0,.slice none 0 0]from by(with_reducible (repeat' (first|(refine VB.new' ?_;exact(by first|omega|(simp;done)|(simp;omega)))|apply VB.put2|apply VB.put3|apply VB.put5|refine VB.drew ?_|refine VB.far ?_ ?_ _|refine VB.alloc ?_ _|refine VB.gr ?_ HG7.out ?_|omega|(simp;done)|(simp;omega)))))
       have HGW7:=Lib.hid (show Gr w.heap.size w w7 from by(with_reducible (repeat' (first|exact Gr.refl _ _|refine Gr.drew ?_|refine Gr.setCell ?_ ?_ _|refine Gr.alloc ?_ ?_ _|refine Gr.trans ?_ (Gr.mono HG7.out ?_)|refine Gr.trans ?_ (Gr.mono HGW.out ?_)|omega|(simp;done)|(simp;omega)))))
       have HP7:=Lib.hid (show VB w7 tb (prC ⟨.slice pa 4 pc,.slice ta 2 tc,.slice sa 4 sc,1,a,b,c,q,.slice fa lF.length fc,.slice none 0 0⟩)from by(with_reducible (repeat' (first|(refine VB.new' ?_;exact(by first|omega|(simp;done)|(simp;omega)))|apply VB.put2|apply VB.put3|apply VB.put5|refine VB.drew ?_|refine VB.far ?_ ?_ _|refine VB.alloc ?_ _|exact HP.out|refine VB.gr ?_ HG7.out ?_|omega|(simp;done)|(simp;omega)))))
       have HK7:=Lib.hid (show VB w7 (w.heap.size+1) [.int .u64 (lowN (sz a.num)),.string (bigS (sz a.num)),.bool (ng a.num),.int .u64 (lowN (fm a)),.string (bigS (fm a)),.int .u64 (lowN (sz b.num)),.string (bigS (sz b.num)),.bool (ng b.num),.int .u64 (lowN (fm b)),.string (bigS (fm b)),.int .u64 (lowN (sz c.num)),.string (bigS (sz c.num)),.bool (ng c.num),.int .u64 (lowN (fm c)),.string (bigS (fm c))]from(HB1.out.kp HK.out (by simp;omega)).gr (B:=wr.heap.size) (by(with_reducible (repeat' (first|exact Gr.refl _ _|refine Gr.drew ?_|refine Gr.setCell ?_ ?_ _|refine Gr.alloc ?_ ?_ _|refine Gr.trans ?_ (Gr.mono HG7.out ?_)|omega|(simp;done)|(simp;omega))))) (by omega))
       have k0:=HK7.out.c 0 _ rfl
       have k1:=HK7.out.c 1 _ rfl
       have k2:=HK7.out.c 2 _ rfl
       have k3:=HK7.out.c 3 _ rfl
       have k4:=HK7.out.c 4 _ rfl
       have k5:=HK7.out.c 5 _ rfl
       have k6:=HK7.out.c 6 _ rfl
       have k7:=HK7.out.c 7 _ rfl
       have k8:=HK7.out.c 8 _ rfl
       have k9:=HK7.out.c 9 _ rfl
       have k10:=HK7.out.c 10 _ rfl
       have k11:=HK7.out.c 11 _ rfl
       have k12:=HK7.out.c 12 _ rfl
       have k13:=HK7.out.c 13 _ rfl
       have k14:=HK7.out.c 14 _ rfl
       go_wp2_with fail
       refine(HFl.out _ HGW7.out).mono ?_
       rintro e w8 ⟨u0,u1,rfl,hP0,hP1,hg8⟩
       obtain ⟨ua,uc,rfl⟩:=hP0.at
       obtain ⟨ub,ud,rfl⟩:=hP1.at
       have HPU:=Lib.hid (And.intro hP0 hP1)
       have hs8:=hg8.size
       have HG8:=Lib.hid hg8
       have HE8:=Lib.hid (show VB w8 wr.heap.size [.int .i64 0,.bool false,.slice none 0 0,.slice none 0 0,.slice none 0 0]from by(with_reducible (repeat' (first|(refine VB.new' ?_;exact(by first|omega|(simp;done)|(simp;omega)))|apply VB.put2|apply VB.put3|apply VB.put5|refine VB.drew ?_|refine VB.far ?_ ?_ _|refine VB.alloc ?_ _|exact HE7.out|refine VB.gr ?_ HG8.out ?_|omega|(simp;done)|(simp;omega)))))
       have HP8:=Lib.hid (show VB w8 tb (prC ⟨.slice pa 4 pc,.slice ta 2 tc,.slice sa 4 sc,1,a,b,c,q,.slice fa lF.length fc,.slice none 0 0⟩)from by(with_reducible (repeat' (first|(refine VB.new' ?_;exact(by first|omega|(simp;done)|(simp;omega)))|apply VB.put2|apply VB.put3|apply VB.put5|refine VB.drew ?_|refine VB.far ?_ ?_ _|refine VB.alloc ?_ _|exact HP7.out|refine VB.gr ?_ HG8.out ?_|omega|(simp;done)|(simp;omega)))))
       clear hg8
       obtain ⟨e0,e1,e2,e3,e4,f0,f1,f2,f3,f4⟩:=HE8.out.five
       have t25:=HP8.out.c 25 (.slice none 0 0) rfl
       have hq7:tb<w8.heap.size:=by omega
       have hq8:wr.heap.size<w8.heap.size:=by omega
       go_wp2_with (at_builtin;refine wpList_appS _ rfl _ _ 64 rfl (w8.heap.size) i1 _ 88 Tryz.underlying64 HJ.out.1 HJ.out.2.1 HJ.out.2.2.1 HJ.out.2.2.2 rfl (by decide) g5C_len g5C_one (.slice none 0 0) ([]) rfl (SL.nil) (_) _ [⟨[.int .i64 0,.bool false,.slice none 0 0,.slice ua l0.length uc,.slice ub l1.length ud],by simp [Value.oneCell']⟩] 1 rfl rfl (RC.new1' (by simp) rfl) (by simp [maxLen]) (by simp) (by first|(simp;done)|(simp;omega)) ?_;intro v9 w9 hS9 hkp9 hown9;have HP9:=Lib.hid (show VB w9 tb (prC ⟨.slice pa 4 pc,.slice ta 2 tc,.slice sa 4 sc,1,a,b,c,q,.slice fa lF.length fc,.slice none 0 0⟩)from VB.kp (by(with_reducible (repeat' (first|(refine VB.new' ?_;exact(by first|omega|(simp;done)|(simp;omega)))|apply VB.put2|apply VB.put3|apply VB.put5|refine VB.drew ?_|refine VB.far ?_ ?_ _|refine VB.alloc ?_ _|exact HP8.out|omega|(simp;done)|(simp;omega))))) hkp9 (by simp [Value.ownBlock]));have t25:=HP9.out.c 25 (.slice none 0 0) rfl;have tf25:=HP9.out.f 25 (by simp);obtain ⟨va,vc,rfl⟩:=hS9.at;have HS9:=Lib.hid (And.intro hS9 (And.intro hkp9 hown9));clear hS9 hkp9 hown9)
       skip
       go_roundw
       case rel=>
        have K2:=Kp.trans (Kp.trans ((show Gr wr.heap.size wr _ from by(with_reducible (repeat' (first|exact Gr.refl _ _|refine Gr.drew ?_|refine Gr.setCell ?_ ?_ _|refine Gr.alloc ?_ ?_ _|refine Gr.trans ?_ (Gr.mono HG8.out ?_)|refine Gr.trans ?_ (Gr.mono HG7.out ?_)|omega|(simp;done)|(simp;omega))))).kp (some tb)) (Kp.weak (row:=some tb) HS9.out.2.1)) (Kp.sets _ tb 25 [.slice va 1 vc])
        refine⟨1,by omega,by go_num,Lib.hid ((K2.cell (b:=gm) (o:=0) hgml (by simp;omega)).trans HC.out),Lib.hid (Nat.lt_of_lt_of_le hgml K2.g.size),Lib.hid (HK.out.trans K2),Lib.hid (fun h=>by omega),Lib.hid (fun _=>⟨.slice va 1 vc,.slice ua l0.length uc,.slice ub l1.length ud,VB.part 25 [.slice va 1 vc] HP9.out rfl (by simp),?_,?_,?_⟩)⟩
        ·exact SL.mono (SL.far (p:=⟨tb,25,none⟩) (SL.one (enc2:=gvC) (y:=⟨0,false,.slice none 0 0,.slice ua l0.length uc,.slice ub l1.length ud⟩) (show SL g5C 5 71 w9 w8.heap.size (.slice va 1 vc) [⟨[.int .i64 0,.bool false,.slice none 0 0,.slice ua l0.length uc,.slice ub l1.length ud],by simp [Value.oneCell']⟩]from HS9.out.1) rfl) (by show tb<w8.heap.size;omega) _) (by omega)
        ·exact SL.mono (SL.far (p:=⟨tb,25,none⟩) (Kp.sl HS9.out.2.1 (SL.gr (SL.far (p:=⟨wr.heap.size,4,none⟩) (SL.far (p:=⟨wr.heap.size,3,none⟩) (HPU.out.1) (by show wr.heap.size< _;omega) _) (by show wr.heap.size< _;omega) _) (by(with_reducible (repeat' (first|exact Gr.refl _ _|refine Gr.drew ?_|refine Gr.setCell ?_ ?_ _|refine Gr.alloc ?_ ?_ _|omega|(simp;done)|(simp;omega)))))) (fun g _=>by simp [Value.ownBlock])) (by show tb< _;omega) _) (by omega)
        ·exact SL.mono (SL.far (p:=⟨tb,25,none⟩) (Kp.sl HS9.out.2.1 (SL.gr (SL.far (p:=⟨wr.heap.size,4,none⟩) (SL.far (p:=⟨wr.heap.size,3,none⟩) (HPU.out.2) (by show wr.heap.size< _;omega) _) (by show wr.heap.size< _;omega) _) (by(with_reducible (repeat' (first|exact Gr.refl _ _|refine Gr.drew ?_|refine Gr.setCell ?_ ?_ _|refine Gr.alloc ?_ ?_ _|omega|(simp;done)|(simp;omega)))))) (fun g _=>by simp [Value.ownBlock])) (by show tb< _;omega) _) (by omega)
       case measure=>simp [intOf]
      ·obtain ⟨gv,g0,g1,hV,hG,hU0,hU1⟩:=H1.out rfl
       obtain ⟨va,vc,rfl⟩:=hG.at
       have HVp:=Lib.hid (show VB wr tb (prC ⟨.slice pa 4 pc,.slice ta 2 tc,.slice sa 4 sc,1,a,b,c,q,.slice fa lF.length fc,.slice va 1 vc⟩)from hV)
       have HGv:=Lib.hid (And.intro (show SL gvC 5 71 wr (tb+1) (.slice va 1 vc) [⟨0,false,.slice none 0 0,g0,g1⟩]from hG) (And.intro hU0 hU1))
       clear H0 H1 hV hG hU0 hU1
       have t25:=HVp.out.c 25 (.slice va 1 vc) rfl
       simp only [show((1:Nat):Int)=1 from rfl]
       have hbt:tb<wr.heap.size:=by omega
       go_wp2_with fail
       refine(clip_Gv _ _ (tb+1) _ HGv.out.1.sr).mono ?_
       rintro e w7 ⟨v7,rfl,hS7,hg7⟩
       obtain ⟨xa,xc,hxa⟩:=hS7.at
       obtain rfl:v7= .slice xa 1 xc:=hxa
       have HS7:=Lib.hid hS7
       have hs7:=hg7.size
       have HV7:=Lib.hid (show VB w7 tb (prC ⟨.slice pa 4 pc,.slice ta 2 tc,.slice sa 4 sc,1,a,b,c,q,.slice fa lF.length fc,.slice va 1 vc⟩)from HVp.out.gr hg7 hbt)
       have y25:=HV7.out.c 25 (.slice va 1 vc) rfl
       have yf25:=HV7.out.f 25 (by simp)
       have HV8:=Lib.hid (show VB (w7.setCell ⟨tb,25,none⟩ (.slice xa 1 xc)) tb (prC ⟨.slice pa 4 pc,.slice ta 2 tc,.slice sa 4 sc,1,a,b,c,q,.slice fa lF.length fc,.slice xa 1 xc⟩)from VB.part 25 [.slice xa 1 xc] HV7.out rfl (by simp))
       have HK8:=Lib.hid (show Kp wc (w7.setCell ⟨tb,25,none⟩ (.slice xa 1 xc)) (some tb)from(HK.out.trans (hg7.kp (some tb))).trans (Kp.sets _ tb 25 [.slice xa 1 xc]))
       have HG7:=Lib.hid hg7
       clear hS7 hg7
       go_wp2_with (refine wpList_load_mid rfl 66 _ rfl tb 0 rfl (prC ⟨.slice pa 4 pc,.slice ta 2 tc,.slice sa 4 sc,1,a,b,c,q,.slice fa lF.length fc,.slice xa 1 xc⟩) _ (VB.range HV8.out) Tryz.underlying66 rfl info_Prb ?_)
       have HMx:=Lib.hid (MS.kp HM.out HK8.out HN.out.1 HN.out.2.1 HN.out.2.2.1)
       have HFx2:=Lib.hid (Kp.sl HK8.out HF.out (fun g e e2=>HN.out.2.2.2 g e (by cases e2;rfl)))
       have HGx:=Lib.hid (SR.far (p:=⟨tb,25,none⟩) HS7.out (by show tb<tb+1;omega) (.slice xa 1 xc))
       have HUx:=Lib.hid (SL.mono (SL.far (p:=⟨tb,25,none⟩) (SL.gr HGv.out.2.1 HG7.out) (by show tb<tb+1;omega) (.slice xa 1 xc)) (Nat.zero_le _))
       have HUy:=Lib.hid (SL.mono (SL.far (p:=⟨tb,25,none⟩) (SL.gr HGv.out.2.2 HG7.out) (by show tb<tb+1;omega) (.slice xa 1 xc)) (Nat.zero_le _))
       refine(HCh.out _ ⟨.slice pa 4 pc,.slice ta 2 tc,.slice sa 4 sc,1,a,b,c,q,.slice fa lF.length fc,.slice xa 1 xc⟩ g0 g1 HMx.out rfl rfl rfl rfl rfl (HFx2.out.mono (Nat.zero_le _)) (HGx.out.mono (Nat.zero_le _)) HUx.out HUy.out).mono ?_
       rintro e w9 ⟨rfl,hg9⟩
       have hs9:=hg9.size
       (try simp at hs9)
       have HB9:=Lib.hid (show VB w9 (w.heap.size+1+1+1) [.slice none 0 0,.slice none 0 0,.slice none 0 0,.int .i64 0,.int .u64 0,.string ⟨#[]⟩,.bool false,.int .u64 0,.string ⟨#[]⟩,.int .u64 0,.string ⟨#[]⟩,.bool false,.int .u64 0,.string ⟨#[]⟩,.int .u64 0,.string ⟨#[]⟩,.bool false,.int .u64 0,.string ⟨#[]⟩,.int .u64 0,.string ⟨#[]⟩,.bool false,.int .u64 0,.string ⟨#[]⟩,.slice none 0 0,.slice none 0 0]from(HB3.out.kp HK8.out (by simp;omega)).gr hg9 (by simp;omega))
       have HV9:=Lib.hid (show VB w9 tb (prC ⟨.slice pa 4 pc,.slice ta 2 tc,.slice sa 4 sc,1,a,b,c,q,.slice fa lF.length fc,.slice xa 1 xc⟩)from HV8.out.gr hg9 (by simp;omega))
       have HG9:=Lib.hid (show Gr w.heap.size w w9 from(HGX.out.trans (HK8.out.gr (B:=w.heap.size) (fun b e=>by cases e;omega) hszx)).trans (hg9.mono (by simp;omega)))
       have HH9:=Lib.hid hg9
       clear hg9
       go_wp2_with (refine wpList_stowK rfl 66 _ _ rfl (w.heap.size+1+1+1) [.slice none 0 0,.slice none 0 0,.slice none 0 0,.int .i64 0,.int .u64 0,.string ⟨#[]⟩,.bool false,.int .u64 0,.string ⟨#[]⟩,.int .u64 0,.string ⟨#[]⟩,.bool false,.int .u64 0,.string ⟨#[]⟩,.int .u64 0,.string ⟨#[]⟩,.bool false,.int .u64 0,.string ⟨#[]⟩,.int .u64 0,.string ⟨#[]⟩,.bool false,.int .u64 0,.string ⟨#[]⟩,.slice none 0 0,.slice none 0 0] [.slice none 0 0,.slice none 0 0,.slice none 0 0,.int .i64 0,.int .u64 0,.string ⟨#[]⟩,.bool false,.int .u64 0,.string ⟨#[]⟩,.int .u64 0,.string ⟨#[]⟩,.bool false,.int .u64 0,.string ⟨#[]⟩,.int .u64 0,.string ⟨#[]⟩,.bool false,.int .u64 0,.string ⟨#[]⟩,.int .u64 0,.string ⟨#[]⟩,.bool false,.int .u64 0,.string ⟨#[]⟩,.slice none 0 0,.slice none 0 0] rfl rfl HB9.out rfl info_Prb (by simp [Value.oneCell']) ?_;intro wf HVf hkf;have HKf:=Lib.hid hkf;clear hkf)
       refine ret_row2 (g:=w.heap.size+1+1+1) Tryz.results18 rfl rfl HVf Tryz.underlying66 rfl info_Prb rfl (HR2.out _ _ ⟨rfl,?_⟩)
       exact HG9.out.trans (HKf.out.gr (B:=w.heap.size) (fun b e=>by cases e;omega) (by have:=HG9.out.size;omega))
theorem made_t (a b c q:Rat) (lu lF:List T) (lg:List T) (vp vt vs v:Value) (fb:Nat) (w:World) (hM:MS w 0 vp vt vs ⟨sqP,sqT,rmS⟩) (hU:PL w 0 v lu) (hFx:VB w fb [.int .i64 0]) (hSr:(∀W,Gr w.heap.size w W→Calls Tryz.prog 8 #[k3V a b c,fracV q,v] W (RetP W lF))) (hAd:(∀W,Gr w.heap.size w W→Calls Tryz.prog 9 #[v,.slice none 0 0] W (RetP W lg))) (hCh:(∀(W:World) (p:Prb) (u:Value),MS W 0 p.vp p.vt p.vs ⟨sqP,sqT,rmS⟩→p.order=1→p.a=a→p.b=b→p.c=c→p.q=q→PL W 0 p.f lF→SR gvC 5 71 W 0 p.gv [⟨0,true,u,.slice none 0 0,.slice none 0 0⟩]→PL W 0 u lg→Calls Tryz.prog 40 #[prV p] W (Ret W (.int .i64 0)))):
  Calls Tryz.prog 18 #[.agg #[vp,vt,vs],.int .i64 1,k3V a b c,fracV q,v,(.slice (some ⟨fb,0,none⟩) 1 1)] w (fun e w'=> ∃(p:Prb) (u:Value),e= .returned (.tuple #[prV p,.int .i64 0])∧(∀v∈prC p,v.oneCell'=true)∧PL w' w.heap.size p.f lF∧SR gvC 5 71 w' w.heap.size p.gv [⟨0,true,u,.slice none 0 0,.slice none 0 0⟩]∧Gr w.heap.size w w'):=
 made_raw a b c q lu lF vp vt vs v (.slice (some ⟨fb,0,none⟩) 1 1) _ w hM hU hSr (.inl ⟨fb,lg,rfl,hFx,hAd,hCh,fun _ _ h=>h⟩)
theorem made_f (a b c q:Rat) (lu lF:List T) (l0 l1:List T) (vp vt vs v:Value) (w:World) (hM:MS w 0 vp vt vs ⟨sqP,sqT,rmS⟩) (hU:PL w 0 v lu) (hSr:(∀W,Gr w.heap.size w W→Calls Tryz.prog 8 #[k3V a b c,fracV q,v] W (RetP W lF))) (hFl:(∀W,Gr w.heap.size w W→Calls Tryz.prog 10 #[k3V a b c,v] W (fun e w'=> ∃v1 v2,e= .returned (.agg #[v1,v2])∧PL w' W.heap.size v1 l0∧PL w' W.heap.size v2 l1∧Gr W.heap.size W w'))) (hCh:(∀(W:World) (p:Prb) (g0 g1:Value),MS W 0 p.vp p.vt p.vs ⟨sqP,sqT,rmS⟩→p.order=1→p.a=a→p.b=b→p.c=c→p.q=q→PL W 0 p.f lF→SR gvC 5 71 W 0 p.gv [⟨0,false,.slice none 0 0,g0,g1⟩]→PL W 0 g0 l0→PL W 0 g1 l1→Calls Tryz.prog 40 #[prV p] W (Ret W (.int .i64 6)))):
  Calls Tryz.prog 18 #[.agg #[vp,vt,vs],.int .i64 1,k3V a b c,fracV q,v,.slice none 0 0] w (fun e w'=>e= .returned (.tuple #[.agg #[.slice none 0 0,.slice none 0 0,.slice none 0 0,.int .i64 0,.int .u64 0,.string ⟨#[]⟩,.bool false,.int .u64 0,.string ⟨#[]⟩,.int .u64 0,.string ⟨#[]⟩,.bool false,.int .u64 0,.string ⟨#[]⟩,.int .u64 0,.string ⟨#[]⟩,.bool false,.int .u64 0,.string ⟨#[]⟩,.int .u64 0,.string ⟨#[]⟩,.bool false,.int .u64 0,.string ⟨#[]⟩,.slice none 0 0,.slice none 0 0],.int .i64 6])∧Gr w.heap.size w w'):=
 made_raw a b c q lu lF vp vt vs v (.slice none 0 0) _ w hM hU hSr (.inr ⟨l0,l1,rfl,hFl,hCh,fun _ _ h=>h⟩)
end Go.Proofs.YtmelogdhllhjiaaGreat
