/-
  Part 40 of the proof: Lives.
-/
import Derived.Test.YtmelogdhllhjiaaGreatJ37
import Derived.Test.YtmelogdhllhjiaaGreatJ23
set_option linter.unusedSimpArgs false
set_option linter.unusedVariables false
namespace Go.Proofs.YtmelogdhllhjiaaGreat
open Go.RowKit Gus Go.Maps
structure LivS (w wx:World) (g:Nat) (p:Prb) (u:Value) (lF:List T):Prop where
 v:VB wx g (prC p)
 f:PL wx 0 p.f lF
 g:SR gvC 5 71 wx 0 p.gv [⟨0,true,u,.slice none 0 0,.slice none 0 0⟩]
 gr:Gr w.heap.size w wx
set_option maxRecDepth 20000 in
set_option maxHeartbeats 8000000 in
theorem lives_raw (r1 r2 r3 r4:Rat) (lu lxy l0 l1 ls ls1 lc lx ly ly2 lx3 la1 la2 la3:List T)
  (hI1:∀w,Calls Tryz.prog 16 #[.int .i64 1] w (Ret w (fracV r1)))
  (hI2:∀w,Calls Tryz.prog 16 #[.int .i64 2] w (Ret w (fracV r2)))
  (hI3:∀w,Calls Tryz.prog 16 #[.int .i64 3] w (Ret w (fracV r3)))
  (hI4:∀w,Calls Tryz.prog 16 #[.int .i64 (-4)] w (Ret w (fracV r4)))
  (hOf1:∀W v,PL W 0 v [⟨2,0,r1⟩,⟨0,2,r1⟩]→Calls Tryz.prog 17 #[v] W (fun e w'=> ∃v',e= .returned (.tuple #[v',.int .i64 0])∧PL w' W.heap.size v' lu∧Gr W.heap.size W w'))
  (hOf2:∀W v,PL W 0 v [⟨1,1,r1⟩]→Calls Tryz.prog 17 #[v] W (fun e w'=> ∃v',e= .returned (.tuple #[v',.int .i64 0])∧PL w' W.heap.size v' lxy∧Gr W.heap.size W w'))
  (hFl:∀W v,PL W 0 v lxy→Calls Tryz.prog 10 #[k3V r2 r1 r3,v] W (fun e w'=> ∃v1 v2,e= .returned (.agg #[v1,v2])∧PL w' W.heap.size v1 l0∧PL w' W.heap.size v2 l1∧Gr W.heap.size W w'))
  (hSq:∀W,Calls Tryz.prog 19 #[] W (fun e w'=> ∃a b c,e= .returned (.agg #[a,b,c])∧MS w' 0 a b c ⟨sqP,sqT,rmS⟩∧Gr W.heap.size W w'))
  (hMt:∀W a b c v fb,MS W 0 a b c ⟨sqP,sqT,rmS⟩→PL W 0 v lu→VB W fb [.int .i64 0]→Calls Tryz.prog 18 #[.agg #[a,b,c],.int .i64 1,.agg #[.int .u64 (lowN (sz r1.num)),.string (bigS (sz r1.num)),.bool (ng r1.num),.int .u64 (lowN (fm r1)),.string (bigS (fm r1)),.int .u64 0,.string ⟨#[]⟩,.bool false,.int .u64 0,.string ⟨#[]⟩,.int .u64 (lowN (sz r1.num)),.string (bigS (sz r1.num)),.bool (ng r1.num),.int .u64 (lowN (fm r1)),.string (bigS (fm r1))],.agg #[.int .u64 0,.string ⟨#[]⟩,.bool false,.int .u64 0,.string ⟨#[]⟩],v,.slice (some ⟨fb,0,none⟩) 1 1] W (fun e w'=> ∃(p:Prb) (u:Value),e= .returned (.tuple #[prV p,.int .i64 0])∧(∀v∈prC p,v.oneCell'=true)∧PL w' W.heap.size p.f ls∧SR gvC 5 71 w' W.heap.size p.gv [⟨0,true,u,.slice none 0 0,.slice none 0 0⟩]∧Gr W.heap.size W w'))
  (hMf:∀W a b c v,MS W 0 a b c ⟨sqP,sqT,rmS⟩→PL W 0 v lu→Calls Tryz.prog 18 #[.agg #[a,b,c],.int .i64 1,.agg #[.int .u64 (lowN (sz r1.num)),.string (bigS (sz r1.num)),.bool (ng r1.num),.int .u64 (lowN (fm r1)),.string (bigS (fm r1)),.int .u64 0,.string ⟨#[]⟩,.bool false,.int .u64 0,.string ⟨#[]⟩,.int .u64 (lowN (sz r1.num)),.string (bigS (sz r1.num)),.bool (ng r1.num),.int .u64 (lowN (fm r1)),.string (bigS (fm r1))],.agg #[.int .u64 0,.string ⟨#[]⟩,.bool false,.int .u64 0,.string ⟨#[]⟩],v,.slice none 0 0] W (fun e w'=>e= .returned (.tuple #[.agg #[.slice none 0 0,.slice none 0 0,.slice none 0 0,.int .i64 0,.int .u64 0,.string ⟨#[]⟩,.bool false,.int .u64 0,.string ⟨#[]⟩,.int .u64 0,.string ⟨#[]⟩,.bool false,.int .u64 0,.string ⟨#[]⟩,.int .u64 0,.string ⟨#[]⟩,.bool false,.int .u64 0,.string ⟨#[]⟩,.int .u64 0,.string ⟨#[]⟩,.bool false,.int .u64 0,.string ⟨#[]⟩,.slice none 0 0,.slice none 0 0],.int .i64 6])∧Gr W.heap.size W w'))
  (hS0:∀W v,PL W 0 v lu→Calls Tryz.prog 8 #[.agg #[.int .u64 (lowN (sz r1.num)),.string (bigS (sz r1.num)),.bool (ng r1.num),.int .u64 (lowN (fm r1)),.string (bigS (fm r1)),.int .u64 0,.string ⟨#[]⟩,.bool false,.int .u64 0,.string ⟨#[]⟩,.int .u64 (lowN (sz r1.num)),.string (bigS (sz r1.num)),.bool (ng r1.num),.int .u64 (lowN (fm r1)),.string (bigS (fm r1))],.agg #[.int .u64 0,.string ⟨#[]⟩,.bool false,.int .u64 0,.string ⟨#[]⟩],v] W (RetP W ls))
  (hS1:∀W v,PL W 0 v lu→Calls Tryz.prog 8 #[.agg #[.int .u64 (lowN (sz r1.num)),.string (bigS (sz r1.num)),.bool (ng r1.num),.int .u64 (lowN (fm r1)),.string (bigS (fm r1)),.int .u64 0,.string ⟨#[]⟩,.bool false,.int .u64 0,.string ⟨#[]⟩,.int .u64 (lowN (sz r1.num)),.string (bigS (sz r1.num)),.bool (ng r1.num),.int .u64 (lowN (fm r1)),.string (bigS (fm r1))],fracV r1,v] W (RetP W ls1))
  (hCo:∀W,Calls Tryz.prog 11 #[fracV r4] W (RetP W lc))
  (hX:∀W,Calls Tryz.prog 12 #[] W (RetP W lx))
  (hY:∀W,Calls Tryz.prog 13 #[] W (RetP W ly))
  (hSc2:∀W v,PL W 0 v ly→Calls Tryz.prog 7 #[v,fracV r2] W (RetP W ly2))
  (hSc3:∀W v,PL W 0 v lx→Calls Tryz.prog 7 #[v,fracV r3] W (RetP W lx3))
  (hA1:∀W v u,PL W 0 v ls→PL W 0 u lu→Calls Tryz.prog 9 #[v,u] W (RetP W la1))
  (hA2:∀W v u,PL W 0 v ly2→PL W 0 u lx→Calls Tryz.prog 9 #[v,u] W (RetP W la2))
  (hA3:∀W v u,PL W 0 v ly→PL W 0 u lx3→Calls Tryz.prog 9 #[v,u] W (RetP W la3))
  (hE1:∀W v u,PL W 0 v ls→PL W 0 u lc→Calls Tryz.prog 14 #[v,u] W (Ret W (.bool true)))
  (hE2:∀W v u,PL W 0 v ls1→PL W 0 u la1→Calls Tryz.prog 14 #[v,u] W (Ret W (.bool true)))
  (hE3:∀W v u,PL W 0 v l0→PL W 0 u la2→Calls Tryz.prog 14 #[v,u] W (Ret W (.bool true)))
  (hE4:∀W v u,PL W 0 v l1→PL W 0 u la3→Calls Tryz.prog 14 #[v,u] W (Ret W (.bool true)))
  (hE5:∀W v u,PL W 0 v ls→PL W 0 u ls→Calls Tryz.prog 14 #[v,u] W (Ret W (.bool true))) (w:World):
  Calls Tryz.prog 4 #[] w (Ret w (.bool true)):=by
 have hI1:=Lib.hid hI1
 have hI2:=Lib.hid hI2
 have hI3:=Lib.hid hI3
 have hI4:=Lib.hid hI4
 have hOf1:=Lib.hid hOf1
 have hOf2:=Lib.hid hOf2
 have hFl:=Lib.hid hFl
 have hSq:=Lib.hid hSq
 have hMt:=Lib.hid hMt
 have hMf:=Lib.hid hMf
 have hS0:=Lib.hid hS0
 have hS1:=Lib.hid hS1
 have hCo:=Lib.hid hCo
 have hX:=Lib.hid hX
 have hY:=Lib.hid hY
 have hSc2:=Lib.hid hSc2
 have hSc3:=Lib.hid hSc3
 have hA1:=Lib.hid hA1
 have hA2:=Lib.hid hA2
 have hA3:=Lib.hid hA3
 have hE1:=Lib.hid hE1
 have hE2:=Lib.hid hE2
 have hE3:=Lib.hid hE3
 have hE4:=Lib.hid hE4
 have hE5:=Lib.hid hE5
 go_enter Tryz.func4,Tryz.ntmps4
 go_wp2_with fail
 (refine(hI1.out _).mono ?_;rintro e w1 ⟨rfl,hg1⟩;(try (with_reducible replace hg1:=Gr.of_drew hg1));have hsz1:=hg1.size;(try simp at hsz1);skip;obtain ⟨hc1,hf1⟩:=hg1.cells;have HG1:=Lib.hid hg1;clear hg1)
 go_wp2_with fail
 (refine(hI1.out _).mono ?_;rintro e w2 ⟨rfl,hg2⟩;(try (with_reducible replace hg2:=Gr.of_drew hg2));have hsz2:=hg2.size;(try simp at hsz2);skip;obtain ⟨hc2,hf2⟩:=hg2.cells;have HG2:=Lib.hid hg2;clear hg2)
 go_upto_region 2 with fail
 have HK1:=Lib.hid (show VB (w2.alloc (.cells #[.int .u64 (lowN (sz r1.num)),.string (bigS (sz r1.num)),.bool (ng r1.num),.int .u64 (lowN (fm r1)),.string (bigS (fm r1)),.int .u64 0,.string ⟨#[]⟩,.bool false,.int .u64 0,.string ⟨#[]⟩,.int .u64 (lowN (sz r1.num)),.string (bigS (sz r1.num)),.bool (ng r1.num),.int .u64 (lowN (fm r1)),.string (bigS (fm r1))] 39)) w2.heap.size [.int .u64 (lowN (sz r1.num)),.string (bigS (sz r1.num)),.bool (ng r1.num),.int .u64 (lowN (fm r1)),.string (bigS (fm r1)),.int .u64 0,.string ⟨#[]⟩,.bool false,.int .u64 0,.string ⟨#[]⟩,.int .u64 (lowN (sz r1.num)),.string (bigS (sz r1.num)),.bool (ng r1.num),.int .u64 (lowN (fm r1)),.string (bigS (fm r1))]from VB.new w2 _ _)
 have HW2:=Lib.hid (show Gr w.heap.size w (w2.alloc (.cells #[.int .u64 (lowN (sz r1.num)),.string (bigS (sz r1.num)),.bool (ng r1.num),.int .u64 (lowN (fm r1)),.string (bigS (fm r1)),.int .u64 0,.string ⟨#[]⟩,.bool false,.int .u64 0,.string ⟨#[]⟩,.int .u64 (lowN (sz r1.num)),.string (bigS (sz r1.num)),.bool (ng r1.num),.int .u64 (lowN (fm r1)),.string (bigS (fm r1))] 39))from by(with_reducible (repeat' (first|exact Gr.refl _ _|refine Gr.drew ?_|refine Gr.setCell ?_ ?_ _|refine Gr.alloc ?_ ?_ _|refine Gr.trans ?_ (Gr.mono HG2.out ?_)|refine Gr.trans ?_ (Gr.mono HG1.out ?_)|omega|(simp;done)|(simp;omega)))))
 have hk1:w.heap.size≤w2.heap.size:=by have:=HG1.out.size;have:=HG2.out.size;omega
 have hs2:w2.heap.size<(w2.alloc (.cells #[.int .u64 (lowN (sz r1.num)),.string (bigS (sz r1.num)),.bool (ng r1.num),.int .u64 (lowN (fm r1)),.string (bigS (fm r1)),.int .u64 0,.string ⟨#[]⟩,.bool false,.int .u64 0,.string ⟨#[]⟩,.int .u64 (lowN (sz r1.num)),.string (bigS (sz r1.num)),.bool (ng r1.num),.int .u64 (lowN (fm r1)),.string (bigS (fm r1))] 39)).heap.size:=by simp
 clear HG1 HG2 hc1 hf1 hc2 hf2
 try clear hsz1
 try clear hsz2
 generalize w2.alloc (.cells #[.int .u64 (lowN (sz r1.num)),.string (bigS (sz r1.num)),.bool (ng r1.num),.int .u64 (lowN (fm r1)),.string (bigS (fm r1)),.int .u64 0,.string ⟨#[]⟩,.bool false,.int .u64 0,.string ⟨#[]⟩,.int .u64 (lowN (sz r1.num)),.string (bigS (sz r1.num)),.bool (ng r1.num),.int .u64 (lowN (fm r1)),.string (bigS (fm r1))] 39)=wa at *
 generalize w2.heap.size=k1 at *
 go_wp2_with fail
 (refine(hI1.out _).mono ?_;rintro e w3 ⟨rfl,hg3⟩;(try (with_reducible replace hg3:=Gr.of_drew hg3));have hsz3:=hg3.size;(try simp at hsz3);have hy3_0:k1<w3.heap.size:=(by omega);obtain ⟨hc3,hf3⟩:=hg3.cells;have HG3:=Lib.hid hg3;clear hg3)
 go_wp2_with fail
 (refine(hI1.out _).mono ?_;rintro e w4 ⟨rfl,hg4⟩;(try (with_reducible replace hg4:=Gr.of_drew hg4));have hsz4:=hg4.size;(try simp at hsz4);have hy4_0:k1<w4.heap.size:=(by omega);obtain ⟨hc4,hf4⟩:=hg4.cells;have HG4:=Lib.hid hg4;clear hg4)
 go_wp2_with fail
 refine(hOf1.out _ _ (SL.new' (l:= [⟨2,0,r1⟩,⟨0,2,r1⟩]) tC_len _ rfl (by first|rfl|simp) (Nat.zero_le _) (by simp [maxLen]) rfl)).mono ?_
 rintro e w5 ⟨vu,rfl,hPu,hg5⟩
 have HG5:=Lib.hid hg5
 have HU:=Lib.hid hPu
 have HW5:=Lib.hid (show Gr w.heap.size w w5 from by(with_reducible (repeat' (first|exact Gr.refl _ _|refine Gr.drew ?_|refine Gr.setCell ?_ ?_ _|refine Gr.alloc ?_ ?_ _|refine Gr.trans ?_ (Gr.mono HG5.out ?_)|refine Gr.trans ?_ (Gr.mono HG4.out ?_)|refine Gr.trans ?_ (Gr.mono HG3.out ?_)|refine Gr.trans ?_ (Gr.mono HW2.out ?_)|omega|(simp;done)|(simp;omega)))))
 have HK5:=Lib.hid (show VB w5 k1 [.int .u64 (lowN (sz r1.num)),.string (bigS (sz r1.num)),.bool (ng r1.num),.int .u64 (lowN (fm r1)),.string (bigS (fm r1)),.int .u64 0,.string ⟨#[]⟩,.bool false,.int .u64 0,.string ⟨#[]⟩,.int .u64 (lowN (sz r1.num)),.string (bigS (sz r1.num)),.bool (ng r1.num),.int .u64 (lowN (fm r1)),.string (bigS (fm r1))]from by(with_reducible (repeat' (first|(refine VB.new' ?_;exact(by first|omega|(simp;done)|(simp;omega)))|apply VB.put2|apply VB.put3|apply VB.put5|refine VB.drew ?_|refine VB.far ?_ ?_ _|refine VB.alloc ?_ _|exact HK1.out|refine VB.gr ?_ HG5.out ?_|refine VB.gr ?_ HG4.out ?_|refine VB.gr ?_ HG3.out ?_|omega|(simp;done)|(simp;omega)))))
 have hk5:k1<w5.heap.size:=HK5.out.lt
 clear HG5 HG4 HG3 HW2 HK1 hg5 hPu hc3 hf3 hc4 hf4 hs2
 try clear hsz3
 try clear hsz4
 go_wp2_with fail
 (refine(hI1.out _).mono ?_;rintro e w6 ⟨rfl,hg6⟩;(try (with_reducible replace hg6:=Gr.of_drew hg6));have hsz6:=hg6.size;(try simp at hsz6);have hy6_0:k1<w6.heap.size:=(by omega);obtain ⟨hc6,hf6⟩:=hg6.cells;have HG6:=Lib.hid hg6;clear hg6)
 go_wp2_with fail
 refine(hOf2.out _ _ (SL.new' (l:= [⟨1,1,r1⟩]) tC_len _ rfl (by first|rfl|simp) (Nat.zero_le _) (by simp [maxLen]) rfl)).mono ?_
 rintro e w7 ⟨vx,rfl,hPx,hg7⟩
 have HG7:=Lib.hid hg7
 have HX:=Lib.hid hPx
 have HW7:=Lib.hid (show Gr w.heap.size w w7 from by(with_reducible (repeat' (first|exact Gr.refl _ _|refine Gr.drew ?_|refine Gr.setCell ?_ ?_ _|refine Gr.alloc ?_ ?_ _|refine Gr.trans ?_ (Gr.mono HG7.out ?_)|refine Gr.trans ?_ (Gr.mono HG6.out ?_)|refine Gr.trans ?_ (Gr.mono HW5.out ?_)|omega|(simp;done)|(simp;omega)))))
 have HK7:=Lib.hid (show VB w7 k1 [.int .u64 (lowN (sz r1.num)),.string (bigS (sz r1.num)),.bool (ng r1.num),.int .u64 (lowN (fm r1)),.string (bigS (fm r1)),.int .u64 0,.string ⟨#[]⟩,.bool false,.int .u64 0,.string ⟨#[]⟩,.int .u64 (lowN (sz r1.num)),.string (bigS (sz r1.num)),.bool (ng r1.num),.int .u64 (lowN (fm r1)),.string (bigS (fm r1))]from by(with_reducible (repeat' (first|(refine VB.new' ?_;exact(by first|omega|(simp;done)|(simp;omega)))|apply VB.put2|apply VB.put3|apply VB.put5|refine VB.drew ?_|refine VB.far ?_ ?_ _|refine VB.alloc ?_ _|exact HK5.out|refine VB.gr ?_ HG7.out ?_|refine VB.gr ?_ HG6.out ?_|omega|(simp;done)|(simp;omega)))))
 have HU7:=Lib.hid (HU.out.gr (show Gr w5.heap.size w5 w7 from by(with_reducible (repeat' (first|exact Gr.refl _ _|refine Gr.drew ?_|refine Gr.setCell ?_ ?_ _|refine Gr.alloc ?_ ?_ _|refine Gr.trans ?_ (Gr.mono HG7.out ?_)|refine Gr.trans ?_ (Gr.mono HG6.out ?_)|omega|(simp;done)|(simp;omega))))))
 have hk7:k1<w7.heap.size:=HK7.out.lt
 clear HG7 HG6 HW5 HK5 HU hg7 hPx hc6 hf6 hk5
 try clear hsz6
 go_wp2_with fail
 (refine(hI2.out _).mono ?_;rintro e w8 ⟨rfl,hg8⟩;(try (with_reducible replace hg8:=Gr.of_drew hg8));have hsz8:=hg8.size;(try simp at hsz8);have hy8_0:k1<w8.heap.size:=(by omega);obtain ⟨hc8,hf8⟩:=hg8.cells;have HG8:=Lib.hid hg8;clear hg8)
 go_wp2_with fail
 (refine(hI1.out _).mono ?_;rintro e w9 ⟨rfl,hg9⟩;(try (with_reducible replace hg9:=Gr.of_drew hg9));have hsz9:=hg9.size;(try simp at hsz9);have hy9_0:k1<w9.heap.size:=(by omega);obtain ⟨hc9,hf9⟩:=hg9.cells;have HG9:=Lib.hid hg9;clear hg9)
 go_wp2_with fail
 (refine(hI3.out _).mono ?_;rintro e w10 ⟨rfl,hg10⟩;(try (with_reducible replace hg10:=Gr.of_drew hg10));have hsz10:=hg10.size;(try simp at hsz10);have hy10_0:k1<w10.heap.size:=(by omega);obtain ⟨hc10,hf10⟩:=hg10.cells;have HG10:=Lib.hid hg10;clear hg10)
 go_wp2_with fail
 refine(hFl.out _ _ ((HX.out.gr (show Gr w7.heap.size w7 _ from by(with_reducible (repeat' (first|exact Gr.refl _ _|refine Gr.drew ?_|refine Gr.setCell ?_ ?_ _|refine Gr.alloc ?_ ?_ _|refine Gr.trans ?_ (Gr.mono HG10.out ?_)|refine Gr.trans ?_ (Gr.mono HG9.out ?_)|refine Gr.trans ?_ (Gr.mono HG8.out ?_)|omega|(simp;done)|(simp;omega)))))).mono (Nat.zero_le _))).mono ?_
 rintro e w11 ⟨v1,v2,rfl,hP1,hP2,hg11⟩
 obtain ⟨p1,c1,rfl⟩:=hP1.at
 obtain ⟨p2,c2,rfl⟩:=hP2.at
 have HG11:=Lib.hid hg11
 have HP:=Lib.hid (And.intro hP1 hP2)
 clear hP1 hP2 hg11
 obtain ⟨pu,cu,rfl⟩:=HU7.out.at
 go_upto_region 5 with fail
 have hk6:k1<w11.heap.size:=by have:=HG8.out.size;have:=HG9.out.size;have:=HG10.out.size;have:=HG11.out.size;omega
 have hw7:w7.heap.size≤w11.heap.size:=by have:=HG8.out.size;have:=HG9.out.size;have:=HG10.out.size;have:=HG11.out.size;omega
 have hw0:w.heap.size≤w11.heap.size:=by omega
 have HV6:=Lib.hid (show VB (w11.alloc (.cells #[.slice p1 l0.length c1,.slice p2 l1.length c2] 46)) w11.heap.size [.slice p1 l0.length c1,.slice p2 l1.length c2]from VB.new w11 _ _)
 have HK6:=Lib.hid (show VB (w11.alloc (.cells #[.slice p1 l0.length c1,.slice p2 l1.length c2] 46)) k1 [.int .u64 (lowN (sz r1.num)),.string (bigS (sz r1.num)),.bool (ng r1.num),.int .u64 (lowN (fm r1)),.string (bigS (fm r1)),.int .u64 0,.string ⟨#[]⟩,.bool false,.int .u64 0,.string ⟨#[]⟩,.int .u64 (lowN (sz r1.num)),.string (bigS (sz r1.num)),.bool (ng r1.num),.int .u64 (lowN (fm r1)),.string (bigS (fm r1))]from by(with_reducible (repeat' (first|(refine VB.new' ?_;exact(by first|omega|(simp;done)|(simp;omega)))|apply VB.put2|apply VB.put3|apply VB.put5|refine VB.drew ?_|refine VB.far ?_ ?_ _|refine VB.alloc ?_ _|exact HK7.out|refine VB.gr ?_ HG11.out ?_|refine VB.gr ?_ HG10.out ?_|refine VB.gr ?_ HG9.out ?_|refine VB.gr ?_ HG8.out ?_|omega|(simp;done)|(simp;omega)))))
 have HW6:=Lib.hid (show Gr w.heap.size w (w11.alloc (.cells #[.slice p1 l0.length c1,.slice p2 l1.length c2] 46))from by(with_reducible (repeat' (first|exact Gr.refl _ _|refine Gr.drew ?_|refine Gr.setCell ?_ ?_ _|refine Gr.alloc ?_ ?_ _|refine Gr.trans ?_ (Gr.mono HG11.out ?_)|refine Gr.trans ?_ (Gr.mono HG10.out ?_)|refine Gr.trans ?_ (Gr.mono HG9.out ?_)|refine Gr.trans ?_ (Gr.mono HG8.out ?_)|refine Gr.trans ?_ (Gr.mono HW7.out ?_)|omega|(simp;done)|(simp;omega)))))
 have HU6:=Lib.hid (HU7.out.gr (show Gr w7.heap.size w7 (w11.alloc (.cells #[.slice p1 l0.length c1,.slice p2 l1.length c2] 46))from by(with_reducible (repeat' (first|exact Gr.refl _ _|refine Gr.drew ?_|refine Gr.setCell ?_ ?_ _|refine Gr.alloc ?_ ?_ _|refine Gr.trans ?_ (Gr.mono HG11.out ?_)|refine Gr.trans ?_ (Gr.mono HG10.out ?_)|refine Gr.trans ?_ (Gr.mono HG9.out ?_)|refine Gr.trans ?_ (Gr.mono HG8.out ?_)|omega|(simp;done)|(simp;omega))))))
 have HP6:=Lib.hid (And.intro (HP.out.1.gr (show Gr w11.heap.size w11 (w11.alloc (.cells #[.slice p1 l0.length c1,.slice p2 l1.length c2] 46))from by(with_reducible (repeat' (first|exact Gr.refl _ _|refine Gr.drew ?_|refine Gr.setCell ?_ ?_ _|refine Gr.alloc ?_ ?_ _|omega|(simp;done)|(simp;omega)))))) (HP.out.2.gr (show Gr w11.heap.size w11 (w11.alloc (.cells #[.slice p1 l0.length c1,.slice p2 l1.length c2] 46))from by(with_reducible (repeat' (first|exact Gr.refl _ _|refine Gr.drew ?_|refine Gr.setCell ?_ ?_ _|refine Gr.alloc ?_ ?_ _|omega|(simp;done)|(simp;omega)))))))
 have hs6:w11.heap.size<(w11.alloc (.cells #[.slice p1 l0.length c1,.slice p2 l1.length c2] 46)).heap.size:=by simp
 clear HG11 HG10 HG9 HG8 HW7 HK7 HU7 HP HX hk7 hc8 hf8 hc9 hf9 hc10 hf10
 try clear hsz8
 try clear hsz9
 try clear hsz10
 generalize w11.alloc (.cells #[.slice p1 l0.length c1,.slice p2 l1.length c2] 46)=wb at *
 generalize w11.heap.size=k6 at *
 have hb1:k1<wb.heap.size:=by omega
 have hu1:=HK6.out
 have a0:=hu1.c 0 _ rfl
 have a1:=hu1.c 1 _ rfl
 have a2:=hu1.c 2 _ rfl
 have a3:=hu1.c 3 _ rfl
 have a4:=hu1.c 4 _ rfl
 have a5:=hu1.c 5 _ rfl
 have a6:=hu1.c 6 _ rfl
 have a7:=hu1.c 7 _ rfl
 have a8:=hu1.c 8 _ rfl
 have a9:=hu1.c 9 _ rfl
 have a10:=hu1.c 10 _ rfl
 have a11:=hu1.c 11 _ rfl
 have a12:=hu1.c 12 _ rfl
 have a13:=hu1.c 13 _ rfl
 have a14:=hu1.c 14 _ rfl
 clear hu1
 go_cut [7,8] (fun x y wx=> ∃g p u,x= .pointer (some ⟨g,0,none⟩)∧y= .int .i64 0∧LivS wb wx g p u ls)
 case first=>
  refine wp_region_held_drew (S:=(fun w'=>w'.cell? ⟨k1,0,none⟩=some (.int .u64 (lowN (sz r1.num)))∧w'.cell? ⟨k1,1,none⟩=some (.string (bigS (sz r1.num)))∧w'.cell? ⟨k1,2,none⟩=some (.bool (ng r1.num))∧w'.cell? ⟨k1,3,none⟩=some (.int .u64 (lowN (fm r1)))∧w'.cell? ⟨k1,4,none⟩=some (.string (bigS (fm r1)))∧w'.cell? ⟨k1,5,none⟩=some (.int .u64 0)∧w'.cell? ⟨k1,6,none⟩=some (.string ⟨#[]⟩)∧w'.cell? ⟨k1,7,none⟩=some (.bool false)∧w'.cell? ⟨k1,8,none⟩=some (.int .u64 0)∧w'.cell? ⟨k1,9,none⟩=some (.string ⟨#[]⟩)∧w'.cell? ⟨k1,10,none⟩=some (.int .u64 (lowN (sz r1.num)))∧w'.cell? ⟨k1,11,none⟩=some (.string (bigS (sz r1.num)))∧w'.cell? ⟨k1,12,none⟩=some (.bool (ng r1.num))∧w'.cell? ⟨k1,13,none⟩=some (.int .u64 (lowN (fm r1)))∧w'.cell? ⟨k1,14,none⟩=some (.string (bigS (fm r1))))) (by kernel_rfl) ?_ (fun hHeld=>?_)
  ·simp [go_sem, *]
  refine tk 1 (some 40) (.agg #[.int .u64 (lowN (sz r1.num)),.string (bigS (sz r1.num)),.bool (ng r1.num),.int .u64 (lowN (fm r1)),.string (bigS (fm r1)),.int .u64 0,.string ⟨#[]⟩,.bool false,.int .u64 0,.string ⟨#[]⟩,.int .u64 (lowN (sz r1.num)),.string (bigS (sz r1.num)),.bool (ng r1.num),.int .u64 (lowN (fm r1)),.string (bigS (fm r1))]) ?_
  try simp only [pS]
  refine tk 2 (some 41) (.agg #[.int .u64 0,.string ⟨#[]⟩,.bool false,.int .u64 0,.string ⟨#[]⟩]) ?_
  try simp only [pS]
  refine tk 3 (some 42) (.slice pu lu.length cu) ?_
  try simp only [pS]
  refine wpAnyH_ready (rs:= [0,4,9]) (by kernel_rfl) (by simp) ?_
  refine AllReadyH.cons rfl (fun K hK=>?_) (AllReadyH.cons rfl (fun K hK=>?_) (AllReadyH.cons rfl (fun K hK=>?_) AllReadyH.nil))
  ·as_aux_lemma=>
   go_simp
   refine(hSq.out _).mono ?_
   rintro e w20 ⟨sa,sb,sc,rfl,hMs,hg20⟩
   (try (with_reducible replace hg20:=Gr.of_drew hg20))
   have hsz20:=hg20.size
   (try simp at hsz20)
   have hz20_0:k1<w20.heap.size:=(by omega)
   have hz20_1:k6<w20.heap.size:=(by omega)
   obtain ⟨hc20,hf20⟩:=hg20.cells
   have HG20:=Lib.hid hg20
   clear hg20
   have HMS:=Lib.hid hMs
   clear hMs
   (try dsimp only)
   refine hK.out _ _ ?_ (fun hQ1=>?_)
   ·(first|exact trivial|((try dsimp only);simp [go_sem, *]))
   clear hK K hHeld
   try simp only [pS]
   refine wpAnyH_ready (rs:= [4,9]) (by kernel_rfl) (by simp) ?_
   refine AllReadyH.cons rfl (fun K hK=>?_) (AllReadyH.cons rfl (fun K hK=>?_) AllReadyH.nil)
   ·as_aux_lemma=>
    go_simp
    have ha2_0_0:k1<w20.heap.size+1:=(by omega)
    have ha2_1_0:k6<w20.heap.size+1:=(by omega)
    have ha2_2_0:w20.heap.size<w20.heap.size+1:=(by omega)
    (try dsimp only)
    refine hK.out _ _ ?_ (fun hQ2=>?_)
    ·(first|exact trivial|((try dsimp only);simp [go_sem, *]))
    clear hK K hQ1
    try simp only [pS]
    refine wpAnyH_ready (rs:= [5,9]) (by kernel_rfl) (by simp) ?_
    refine AllReadyH.cons rfl (fun K hK=>?_) (AllReadyH.cons rfl (fun K hK=>?_) AllReadyH.nil)
    ·as_aux_lemma=>
     go_simp
     refine(hMt.out _ sa sb sc (.slice pu lu.length cu) (w20.heap.size) (HMS.out.gr (by(with_reducible (repeat' (first|exact Gr.refl _ _|refine Gr.drew ?_|refine Gr.setCell ?_ ?_ _|refine Gr.alloc ?_ ?_ _|refine Gr.trans ?_ (Gr.mono HG20.out ?_)|omega|(simp;done)|(simp;omega)))))) ((HU6.out.gr (by(with_reducible (repeat' (first|exact Gr.refl _ _|refine Gr.drew ?_|refine Gr.setCell ?_ ?_ _|refine Gr.alloc ?_ ?_ _|refine Gr.trans ?_ (Gr.mono HG20.out ?_)|omega|(simp;done)|(simp;omega)))))).mono (Nat.zero_le _)) (by(with_reducible (repeat' (first|(refine VB.new' ?_;exact(by first|omega|(simp;done)|(simp;omega)))|apply VB.put2|apply VB.put3|apply VB.put5|refine VB.drew ?_|refine VB.far ?_ ?_ _|refine VB.alloc ?_ _|refine VB.gr ?_ HG20.out ?_|omega|(simp;done)|(simp;omega)))))).mono ?_
     rintro e w21 ⟨p,uu,rfl,hOne,hPf,hPg,hg21⟩
     (try (with_reducible replace hg21:=Gr.of_drew hg21))
     have hsz21:=hg21.size
     (try simp at hsz21)
     have hz21_0:k1<w21.heap.size:=(by omega)
     have hz21_1:k6<w21.heap.size:=(by omega)
     have hz21_2:w20.heap.size<w21.heap.size:=(by omega)
     obtain ⟨hc21,hf21⟩:=hg21.cells
     have HG21:=Lib.hid hg21
     clear hg21
     have HPF:=Lib.hid (And.intro (And.intro (own_sl hPf) (fun g (e:p.gv.ownBlock=some g)=>hPg.own_lt e)) (And.intro hPf hPg))
     have HONE:=Lib.hid hOne
     clear hPf hPg hOne
     (try dsimp only)
     refine hK.out _ _ ?_ (fun hQ3=>?_)
     ·(first|exact trivial|((try dsimp only);simp [go_sem, *]))
     clear hK K hQ2
     try simp only [pS]
     refine tk 6 (some 38) (.tuple #[prV p,.int .i64 0]) ?_
     try simp only [pS]
     refine tk 7 (some 45) (prV p) ?_
     try simp only [pS]
     refine tk 8 (some 46) (.int .i64 0) ?_
     try simp only [pS]
     refine wpAnyH_ready (rs:= [9]) (by kernel_rfl) (by simp) ?_
     refine AllReadyH.cons rfl (fun K hK=>?_) AllReadyH.nil
     go_simp
     have ha4_0_0:k1<w21.heap.size+1:=(by omega)
     have ha4_1_0:k6<w21.heap.size+1:=(by omega)
     have ha4_2_0:w20.heap.size<w21.heap.size+1:=(by omega)
     have ha4_3_0:w21.heap.size<w21.heap.size+1:=(by omega)
     (try dsimp only)
     refine hK.out _ _ ?_ (fun hQ4=>?_)
     ·(first|exact trivial|((try dsimp only);simp [go_sem, *]))
     clear hK K hQ3
     try simp only [pS]
     refine wpAnyH_ready (rs:= [10]) (by kernel_rfl) (by simp) ?_
     refine AllReadyH.cons (o:=⟨none,_,_,_,_,_⟩) rfl (fun K hK=>?_) AllReadyH.nil
     rw [if_pos (by rfl)]
     refine wp_store_mid 66 _ _ rfl (w21.heap.size) 0 (List.toArray (prC p)) rfl rfl (VB.there (cs:= [.slice none 0 0,.slice none 0 0,.slice none 0 0,.int .i64 0,.int .u64 0,.string ⟨#[]⟩,.bool false,.int .u64 0,.string ⟨#[]⟩,.int .u64 0,.string ⟨#[]⟩,.bool false,.int .u64 0,.string ⟨#[]⟩,.int .u64 0,.string ⟨#[]⟩,.bool false,.int .u64 0,.string ⟨#[]⟩,.int .u64 0,.string ⟨#[]⟩,.bool false,.int .u64 0,.string ⟨#[]⟩,.slice none 0 0,.slice none 0 0]) ?_) info_Prb (all_oneCell_toArray HONE.out) ?_
     ·(with_reducible (repeat' (first|(refine VB.new' ?_;exact(by first|omega|(simp;done)|(simp;omega)))|apply VB.put2|apply VB.put3|apply VB.put5|refine VB.drew ?_|refine VB.far ?_ ?_ _|refine VB.alloc ?_ _|refine VB.gr ?_ HG21.out ?_|refine VB.gr ?_ HG20.out ?_|omega|(simp;done)|(simp;omega))))
     simp only [pS]
     refine hK.out _ _ ?_ (fun hQ5=>?_)
     ·have hh:=hQ4;(try dsimp only at hh ⊢);simp only [cell_sets_ne (show k1≠w21.heap.size by omega)];exact hh
     clear hK K hQ4
     refine tk 11 (some 8) (.int .i64 0) ?_
     try simp only [pS]
     refine wpAnyH_done (by kernel_rfl) ?_ _
     go_wp2_with fail
     go_meet
     refine⟨w21.heap.size,p,uu,rfl,rfl,⟨?_,?_,?_,?_⟩⟩
     ·refine VB.set (cs:= [.slice none 0 0,.slice none 0 0,.slice none 0 0,.int .i64 0,.int .u64 0,.string ⟨#[]⟩,.bool false,.int .u64 0,.string ⟨#[]⟩,.int .u64 0,.string ⟨#[]⟩,.bool false,.int .u64 0,.string ⟨#[]⟩,.int .u64 0,.string ⟨#[]⟩,.bool false,.int .u64 0,.string ⟨#[]⟩,.int .u64 0,.string ⟨#[]⟩,.bool false,.int .u64 0,.string ⟨#[]⟩,.slice none 0 0,.slice none 0 0]) ?_ (prC p) rfl
      (with_reducible (repeat' (first|(refine VB.new' ?_;exact(by first|omega|(simp;done)|(simp;omega)))|apply VB.put2|apply VB.put3|apply VB.put5|refine VB.drew ?_|refine VB.far ?_ ?_ _|refine VB.alloc ?_ _|refine VB.gr ?_ HG21.out ?_|refine VB.gr ?_ HG20.out ?_|omega|(simp;done)|(simp;omega))))
     ·exact SL.mono (Kp.sl (Kp.sets _ _ _ _) (HPF.out.2.1.gr (by(with_reducible (repeat' (first|exact Gr.refl _ _|refine Gr.drew ?_|refine Gr.setCell ?_ ?_ _|refine Gr.alloc ?_ ?_ _|refine Gr.trans ?_ (Gr.mono HG21.out ?_)|refine Gr.trans ?_ (Gr.mono HG20.out ?_)|omega|(simp;done)|(simp;omega)))))) (fun g e=>by have:=HPF.out.1.1 g e;(try simp at this);simp;omega)) (Nat.zero_le _)
     ·exact SR.mono (SR.kp (HPF.out.2.2.gr (by(with_reducible (repeat' (first|exact Gr.refl _ _|refine Gr.drew ?_|refine Gr.setCell ?_ ?_ _|refine Gr.alloc ?_ ?_ _|refine Gr.trans ?_ (Gr.mono HG21.out ?_)|refine Gr.trans ?_ (Gr.mono HG20.out ?_)|omega|(simp;done)|(simp;omega)))))) (Kp.sets _ _ _ _) (fun g e=>by have:=HPF.out.1.2 g e;(try simp at this);simp;omega)) (Nat.zero_le _)
     ·exact Gr.sets (by omega) _ _ (by(with_reducible (repeat' (first|exact Gr.refl _ _|refine Gr.drew ?_|refine Gr.setCell ?_ ?_ _|refine Gr.alloc ?_ ?_ _|refine Gr.trans ?_ (Gr.mono HG21.out ?_)|refine Gr.trans ?_ (Gr.mono HG20.out ?_)|omega|(simp;done)|(simp;omega)))))
    ·as_aux_lemma=>
     go_simp
     have ha3_0_1:k1<w20.heap.size+1+1:=(by omega)
     have ha3_1_1:k6<w20.heap.size+1+1:=(by omega)
     have ha3_2_1:w20.heap.size<w20.heap.size+1+1:=(by omega)
     have ha3_3_1:w20.heap.size+1<w20.heap.size+1+1:=(by omega)
     (try dsimp only)
     refine hK.out _ _ ?_ (fun hQ3=>?_)
     ·(first|exact trivial|((try dsimp only);simp [go_sem, *]))
     clear hK K hQ2
     try simp only [pS]
     refine wpAnyH_ready (rs:= [5]) (by kernel_rfl) (by simp) ?_
     refine AllReadyH.cons rfl (fun K hK=>?_) AllReadyH.nil
     go_simp
     refine(hMt.out _ sa sb sc (.slice pu lu.length cu) (w20.heap.size) (HMS.out.gr (by(with_reducible (repeat' (first|exact Gr.refl _ _|refine Gr.drew ?_|refine Gr.setCell ?_ ?_ _|refine Gr.alloc ?_ ?_ _|refine Gr.trans ?_ (Gr.mono HG20.out ?_)|omega|(simp;done)|(simp;omega)))))) ((HU6.out.gr (by(with_reducible (repeat' (first|exact Gr.refl _ _|refine Gr.drew ?_|refine Gr.setCell ?_ ?_ _|refine Gr.alloc ?_ ?_ _|refine Gr.trans ?_ (Gr.mono HG20.out ?_)|omega|(simp;done)|(simp;omega)))))).mono (Nat.zero_le _)) (by(with_reducible (repeat' (first|(refine VB.new' ?_;exact(by first|omega|(simp;done)|(simp;omega)))|apply VB.put2|apply VB.put3|apply VB.put5|refine VB.drew ?_|refine VB.far ?_ ?_ _|refine VB.alloc ?_ _|refine VB.gr ?_ HG20.out ?_|omega|(simp;done)|(simp;omega)))))).mono ?_
     rintro e w21 ⟨p,uu,rfl,hOne,hPf,hPg,hg21⟩
     (try (with_reducible replace hg21:=Gr.of_drew hg21))
     have hsz21:=hg21.size
     (try simp at hsz21)
     have hz21_0:k1<w21.heap.size:=(by omega)
     have hz21_1:k6<w21.heap.size:=(by omega)
     have hz21_2:w20.heap.size+1<w21.heap.size:=(by omega)
     have hz21_3:w20.heap.size<w21.heap.size:=(by omega)
     obtain ⟨hc21,hf21⟩:=hg21.cells
     have HG21:=Lib.hid hg21
     clear hg21
     have HPF:=Lib.hid (And.intro (And.intro (own_sl hPf) (fun g (e:p.gv.ownBlock=some g)=>hPg.own_lt e)) (And.intro hPf hPg))
     have HONE:=Lib.hid hOne
     clear hPf hPg hOne
     (try dsimp only)
     refine hK.out _ _ ?_ (fun hQ4=>?_)
     ·(first|exact trivial|((try dsimp only);simp [go_sem, *]))
     clear hK K hQ3
     try simp only [pS]
     refine tk 6 (some 38) (.tuple #[prV p,.int .i64 0]) ?_
     try simp only [pS]
     refine tk 7 (some 45) (prV p) ?_
     try simp only [pS]
     refine tk 8 (some 46) (.int .i64 0) ?_
     try simp only [pS]
     refine wpAnyH_ready (rs:= [10]) (by kernel_rfl) (by simp) ?_
     refine AllReadyH.cons (o:=⟨none,_,_,_,_,_⟩) rfl (fun K hK=>?_) AllReadyH.nil
     rw [if_pos (by rfl)]
     refine wp_store_mid 66 _ _ rfl (w20.heap.size+1) 0 (List.toArray (prC p)) rfl rfl (VB.there (cs:= [.slice none 0 0,.slice none 0 0,.slice none 0 0,.int .i64 0,.int .u64 0,.string ⟨#[]⟩,.bool false,.int .u64 0,.string ⟨#[]⟩,.int .u64 0,.string ⟨#[]⟩,.bool false,.int .u64 0,.string ⟨#[]⟩,.int .u64 0,.string ⟨#[]⟩,.bool false,.int .u64 0,.string ⟨#[]⟩,.int .u64 0,.string ⟨#[]⟩,.bool false,.int .u64 0,.string ⟨#[]⟩,.slice none 0 0,.slice none 0 0]) ?_) info_Prb (all_oneCell_toArray HONE.out) ?_
     ·(with_reducible (repeat' (first|(refine VB.new' ?_;exact(by first|omega|(simp;done)|(simp;omega)))|apply VB.put2|apply VB.put3|apply VB.put5|refine VB.drew ?_|refine VB.far ?_ ?_ _|refine VB.alloc ?_ _|refine VB.gr ?_ HG21.out ?_|refine VB.gr ?_ HG20.out ?_|omega|(simp;done)|(simp;omega))))
     simp only [pS]
     refine hK.out _ _ ?_ (fun hQ5=>?_)
     ·have hh:=hQ4;(try dsimp only at hh ⊢);simp only [cell_sets_ne (show k1≠w20.heap.size+1 by omega)];exact hh
     clear hK K hQ4
     refine tk 11 (some 8) (.int .i64 0) ?_
     try simp only [pS]
     refine wpAnyH_done (by kernel_rfl) ?_ _
     go_wp2_with fail
     go_meet
     refine⟨w20.heap.size+1,p,uu,rfl,rfl,⟨?_,?_,?_,?_⟩⟩
     ·refine VB.set (cs:= [.slice none 0 0,.slice none 0 0,.slice none 0 0,.int .i64 0,.int .u64 0,.string ⟨#[]⟩,.bool false,.int .u64 0,.string ⟨#[]⟩,.int .u64 0,.string ⟨#[]⟩,.bool false,.int .u64 0,.string ⟨#[]⟩,.int .u64 0,.string ⟨#[]⟩,.bool false,.int .u64 0,.string ⟨#[]⟩,.int .u64 0,.string ⟨#[]⟩,.bool false,.int .u64 0,.string ⟨#[]⟩,.slice none 0 0,.slice none 0 0]) ?_ (prC p) rfl
      (with_reducible (repeat' (first|(refine VB.new' ?_;exact(by first|omega|(simp;done)|(simp;omega)))|apply VB.put2|apply VB.put3|apply VB.put5|refine VB.drew ?_|refine VB.far ?_ ?_ _|refine VB.alloc ?_ _|refine VB.gr ?_ HG21.out ?_|refine VB.gr ?_ HG20.out ?_|omega|(simp;done)|(simp;omega))))
     ·exact SL.mono (Kp.sl (Kp.sets _ _ _ _) (HPF.out.2.1.gr (by(with_reducible (repeat' (first|exact Gr.refl _ _|refine Gr.drew ?_|refine Gr.setCell ?_ ?_ _|refine Gr.alloc ?_ ?_ _|refine Gr.trans ?_ (Gr.mono HG21.out ?_)|refine Gr.trans ?_ (Gr.mono HG20.out ?_)|omega|(simp;done)|(simp;omega)))))) (fun g e=>by have:=HPF.out.1.1 g e;(try simp at this);simp;omega)) (Nat.zero_le _)
     ·exact SR.mono (SR.kp (HPF.out.2.2.gr (by(with_reducible (repeat' (first|exact Gr.refl _ _|refine Gr.drew ?_|refine Gr.setCell ?_ ?_ _|refine Gr.alloc ?_ ?_ _|refine Gr.trans ?_ (Gr.mono HG21.out ?_)|refine Gr.trans ?_ (Gr.mono HG20.out ?_)|omega|(simp;done)|(simp;omega)))))) (Kp.sets _ _ _ _) (fun g e=>by have:=HPF.out.1.2 g e;(try simp at this);simp;omega)) (Nat.zero_le _)
     ·exact Gr.sets (by omega) _ _ (by(with_reducible (repeat' (first|exact Gr.refl _ _|refine Gr.drew ?_|refine Gr.setCell ?_ ?_ _|refine Gr.alloc ?_ ?_ _|refine Gr.trans ?_ (Gr.mono HG21.out ?_)|refine Gr.trans ?_ (Gr.mono HG20.out ?_)|omega|(simp;done)|(simp;omega)))))
   ·as_aux_lemma=>
    go_simp
    have ha2_0_0:k1<w20.heap.size+1:=(by omega)
    have ha2_1_0:k6<w20.heap.size+1:=(by omega)
    have ha2_2_0:w20.heap.size<w20.heap.size+1:=(by omega)
    (try dsimp only)
    refine hK.out _ _ ?_ (fun hQ2=>?_)
    ·(first|exact trivial|((try dsimp only);simp [go_sem, *]))
    clear hK K hQ1
    try simp only [pS]
    refine wpAnyH_ready (rs:= [4]) (by kernel_rfl) (by simp) ?_
    refine AllReadyH.cons rfl (fun K hK=>?_) AllReadyH.nil
    go_simp
    have ha3_0_1:k1<w20.heap.size+1+1:=(by omega)
    have ha3_1_1:k6<w20.heap.size+1+1:=(by omega)
    have ha3_2_1:w20.heap.size<w20.heap.size+1+1:=(by omega)
    have ha3_3_1:w20.heap.size+1<w20.heap.size+1+1:=(by omega)
    (try dsimp only)
    refine hK.out _ _ ?_ (fun hQ3=>?_)
    ·(first|exact trivial|((try dsimp only);simp [go_sem, *]))
    clear hK K hQ2
    try simp only [pS]
    refine wpAnyH_ready (rs:= [5]) (by kernel_rfl) (by simp) ?_
    refine AllReadyH.cons rfl (fun K hK=>?_) AllReadyH.nil
    go_simp
    refine(hMt.out _ sa sb sc (.slice pu lu.length cu) (w20.heap.size+1) (HMS.out.gr (by(with_reducible (repeat' (first|exact Gr.refl _ _|refine Gr.drew ?_|refine Gr.setCell ?_ ?_ _|refine Gr.alloc ?_ ?_ _|refine Gr.trans ?_ (Gr.mono HG20.out ?_)|omega|(simp;done)|(simp;omega)))))) ((HU6.out.gr (by(with_reducible (repeat' (first|exact Gr.refl _ _|refine Gr.drew ?_|refine Gr.setCell ?_ ?_ _|refine Gr.alloc ?_ ?_ _|refine Gr.trans ?_ (Gr.mono HG20.out ?_)|omega|(simp;done)|(simp;omega)))))).mono (Nat.zero_le _)) (by(with_reducible (repeat' (first|(refine VB.new' ?_;exact(by first|omega|(simp;done)|(simp;omega)))|apply VB.put2|apply VB.put3|apply VB.put5|refine VB.drew ?_|refine VB.far ?_ ?_ _|refine VB.alloc ?_ _|refine VB.gr ?_ HG20.out ?_|omega|(simp;done)|(simp;omega)))))).mono ?_
    rintro e w21 ⟨p,uu,rfl,hOne,hPf,hPg,hg21⟩
    (try (with_reducible replace hg21:=Gr.of_drew hg21))
    have hsz21:=hg21.size
    (try simp at hsz21)
    have hz21_0:k1<w21.heap.size:=(by omega)
    have hz21_1:k6<w21.heap.size:=(by omega)
    have hz21_2:w20.heap.size<w21.heap.size:=(by omega)
    have hz21_3:w20.heap.size+1<w21.heap.size:=(by omega)
    obtain ⟨hc21,hf21⟩:=hg21.cells
    have HG21:=Lib.hid hg21
    clear hg21
    have HPF:=Lib.hid (And.intro (And.intro (own_sl hPf) (fun g (e:p.gv.ownBlock=some g)=>hPg.own_lt e)) (And.intro hPf hPg))
    have HONE:=Lib.hid hOne
    clear hPf hPg hOne
    (try dsimp only)
    refine hK.out _ _ ?_ (fun hQ4=>?_)
    ·(first|exact trivial|((try dsimp only);simp [go_sem, *]))
    clear hK K hQ3
    try simp only [pS]
    refine tk 6 (some 38) (.tuple #[prV p,.int .i64 0]) ?_
    try simp only [pS]
    refine tk 7 (some 45) (prV p) ?_
    try simp only [pS]
    refine tk 8 (some 46) (.int .i64 0) ?_
    try simp only [pS]
    refine wpAnyH_ready (rs:= [10]) (by kernel_rfl) (by simp) ?_
    refine AllReadyH.cons (o:=⟨none,_,_,_,_,_⟩) rfl (fun K hK=>?_) AllReadyH.nil
    rw [if_pos (by rfl)]
    refine wp_store_mid 66 _ _ rfl (w20.heap.size) 0 (List.toArray (prC p)) rfl rfl (VB.there (cs:= [.slice none 0 0,.slice none 0 0,.slice none 0 0,.int .i64 0,.int .u64 0,.string ⟨#[]⟩,.bool false,.int .u64 0,.string ⟨#[]⟩,.int .u64 0,.string ⟨#[]⟩,.bool false,.int .u64 0,.string ⟨#[]⟩,.int .u64 0,.string ⟨#[]⟩,.bool false,.int .u64 0,.string ⟨#[]⟩,.int .u64 0,.string ⟨#[]⟩,.bool false,.int .u64 0,.string ⟨#[]⟩,.slice none 0 0,.slice none 0 0]) ?_) info_Prb (all_oneCell_toArray HONE.out) ?_
    ·(with_reducible (repeat' (first|(refine VB.new' ?_;exact(by first|omega|(simp;done)|(simp;omega)))|apply VB.put2|apply VB.put3|apply VB.put5|refine VB.drew ?_|refine VB.far ?_ ?_ _|refine VB.alloc ?_ _|refine VB.gr ?_ HG21.out ?_|refine VB.gr ?_ HG20.out ?_|omega|(simp;done)|(simp;omega))))
    simp only [pS]
    refine hK.out _ _ ?_ (fun hQ5=>?_)
    ·have hh:=hQ4;(try dsimp only at hh ⊢);simp only [cell_sets_ne (show k1≠w20.heap.size by omega)];exact hh
    clear hK K hQ4
    refine tk 11 (some 8) (.int .i64 0) ?_
    try simp only [pS]
    refine wpAnyH_done (by kernel_rfl) ?_ _
    go_wp2_with fail
    go_meet
    refine⟨w20.heap.size,p,uu,rfl,rfl,⟨?_,?_,?_,?_⟩⟩
    ·refine VB.set (cs:= [.slice none 0 0,.slice none 0 0,.slice none 0 0,.int .i64 0,.int .u64 0,.string ⟨#[]⟩,.bool false,.int .u64 0,.string ⟨#[]⟩,.int .u64 0,.string ⟨#[]⟩,.bool false,.int .u64 0,.string ⟨#[]⟩,.int .u64 0,.string ⟨#[]⟩,.bool false,.int .u64 0,.string ⟨#[]⟩,.int .u64 0,.string ⟨#[]⟩,.bool false,.int .u64 0,.string ⟨#[]⟩,.slice none 0 0,.slice none 0 0]) ?_ (prC p) rfl
     (with_reducible (repeat' (first|(refine VB.new' ?_;exact(by first|omega|(simp;done)|(simp;omega)))|apply VB.put2|apply VB.put3|apply VB.put5|refine VB.drew ?_|refine VB.far ?_ ?_ _|refine VB.alloc ?_ _|refine VB.gr ?_ HG21.out ?_|refine VB.gr ?_ HG20.out ?_|omega|(simp;done)|(simp;omega))))
    ·exact SL.mono (Kp.sl (Kp.sets _ _ _ _) (HPF.out.2.1.gr (by(with_reducible (repeat' (first|exact Gr.refl _ _|refine Gr.drew ?_|refine Gr.setCell ?_ ?_ _|refine Gr.alloc ?_ ?_ _|refine Gr.trans ?_ (Gr.mono HG21.out ?_)|refine Gr.trans ?_ (Gr.mono HG20.out ?_)|omega|(simp;done)|(simp;omega)))))) (fun g e=>by have:=HPF.out.1.1 g e;(try simp at this);simp;omega)) (Nat.zero_le _)
    ·exact SR.mono (SR.kp (HPF.out.2.2.gr (by(with_reducible (repeat' (first|exact Gr.refl _ _|refine Gr.drew ?_|refine Gr.setCell ?_ ?_ _|refine Gr.alloc ?_ ?_ _|refine Gr.trans ?_ (Gr.mono HG21.out ?_)|refine Gr.trans ?_ (Gr.mono HG20.out ?_)|omega|(simp;done)|(simp;omega)))))) (Kp.sets _ _ _ _) (fun g e=>by have:=HPF.out.1.2 g e;(try simp at this);simp;omega)) (Nat.zero_le _)
    ·exact Gr.sets (by omega) _ _ (by(with_reducible (repeat' (first|exact Gr.refl _ _|refine Gr.drew ?_|refine Gr.setCell ?_ ?_ _|refine Gr.alloc ?_ ?_ _|refine Gr.trans ?_ (Gr.mono HG21.out ?_)|refine Gr.trans ?_ (Gr.mono HG20.out ?_)|omega|(simp;done)|(simp;omega)))))
  ·as_aux_lemma=>
   go_simp
   have ha1_0_0:k1<wb.heap.size+1:=(by omega)
   have ha1_1_0:k6<wb.heap.size+1:=(by omega)
   have ha1_2_0:wb.heap.size<wb.heap.size+1:=(by omega)
   (try dsimp only)
   refine hK.out _ _ ?_ (fun hQ1=>?_)
   ·(first|exact trivial|((try dsimp only);simp [go_sem, *]))
   clear hK K hHeld
   try simp only [pS]
   refine wpAnyH_ready (rs:= [0,9]) (by kernel_rfl) (by simp) ?_
   refine AllReadyH.cons rfl (fun K hK=>?_) (AllReadyH.cons rfl (fun K hK=>?_) AllReadyH.nil)
   ·as_aux_lemma=>
    go_simp
    refine(hSq.out _).mono ?_
    rintro e w20 ⟨sa,sb,sc,rfl,hMs,hg20⟩
    (try (with_reducible replace hg20:=Gr.of_drew hg20))
    have hsz20:=hg20.size
    (try simp at hsz20)
    have hz20_0:k1<w20.heap.size:=(by omega)
    have hz20_1:k6<w20.heap.size:=(by omega)
    have hz20_2:wb.heap.size<w20.heap.size:=(by omega)
    obtain ⟨hc20,hf20⟩:=hg20.cells
    have HG20:=Lib.hid hg20
    clear hg20
    have HMS:=Lib.hid hMs
    clear hMs
    (try dsimp only)
    refine hK.out _ _ ?_ (fun hQ2=>?_)
    ·(first|exact trivial|((try dsimp only);simp [go_sem, *]))
    clear hK K hQ1
    try simp only [pS]
    refine wpAnyH_ready (rs:= [5,9]) (by kernel_rfl) (by simp) ?_
    refine AllReadyH.cons rfl (fun K hK=>?_) (AllReadyH.cons rfl (fun K hK=>?_) AllReadyH.nil)
    ·as_aux_lemma=>
     go_simp
     refine(hMt.out _ sa sb sc (.slice pu lu.length cu) (wb.heap.size) (HMS.out.gr (by(with_reducible (repeat' (first|exact Gr.refl _ _|refine Gr.drew ?_|refine Gr.setCell ?_ ?_ _|refine Gr.alloc ?_ ?_ _|refine Gr.trans ?_ (Gr.mono HG20.out ?_)|omega|(simp;done)|(simp;omega)))))) ((HU6.out.gr (by(with_reducible (repeat' (first|exact Gr.refl _ _|refine Gr.drew ?_|refine Gr.setCell ?_ ?_ _|refine Gr.alloc ?_ ?_ _|refine Gr.trans ?_ (Gr.mono HG20.out ?_)|omega|(simp;done)|(simp;omega)))))).mono (Nat.zero_le _)) (by(with_reducible (repeat' (first|(refine VB.new' ?_;exact(by first|omega|(simp;done)|(simp;omega)))|apply VB.put2|apply VB.put3|apply VB.put5|refine VB.drew ?_|refine VB.far ?_ ?_ _|refine VB.alloc ?_ _|refine VB.gr ?_ HG20.out ?_|omega|(simp;done)|(simp;omega)))))).mono ?_
     rintro e w21 ⟨p,uu,rfl,hOne,hPf,hPg,hg21⟩
     (try (with_reducible replace hg21:=Gr.of_drew hg21))
     have hsz21:=hg21.size
     (try simp at hsz21)
     have hz21_0:k1<w21.heap.size:=(by omega)
     have hz21_1:k6<w21.heap.size:=(by omega)
     have hz21_2:wb.heap.size<w21.heap.size:=(by omega)
     obtain ⟨hc21,hf21⟩:=hg21.cells
     have HG21:=Lib.hid hg21
     clear hg21
     have HPF:=Lib.hid (And.intro (And.intro (own_sl hPf) (fun g (e:p.gv.ownBlock=some g)=>hPg.own_lt e)) (And.intro hPf hPg))
     have HONE:=Lib.hid hOne
     clear hPf hPg hOne
     (try dsimp only)
     refine hK.out _ _ ?_ (fun hQ3=>?_)
     ·(first|exact trivial|((try dsimp only);simp [go_sem, *]))
     clear hK K hQ2
     try simp only [pS]
     refine tk 6 (some 38) (.tuple #[prV p,.int .i64 0]) ?_
     try simp only [pS]
     refine tk 7 (some 45) (prV p) ?_
     try simp only [pS]
     refine tk 8 (some 46) (.int .i64 0) ?_
     try simp only [pS]
     refine wpAnyH_ready (rs:= [9]) (by kernel_rfl) (by simp) ?_
     refine AllReadyH.cons rfl (fun K hK=>?_) AllReadyH.nil
     go_simp
     have ha4_0_0:k1<w21.heap.size+1:=(by omega)
     have ha4_1_0:k6<w21.heap.size+1:=(by omega)
     have ha4_2_0:wb.heap.size<w21.heap.size+1:=(by omega)
     have ha4_3_0:w21.heap.size<w21.heap.size+1:=(by omega)
     (try dsimp only)
     refine hK.out _ _ ?_ (fun hQ4=>?_)
     ·(first|exact trivial|((try dsimp only);simp [go_sem, *]))
     clear hK K hQ3
     try simp only [pS]
     refine wpAnyH_ready (rs:= [10]) (by kernel_rfl) (by simp) ?_
     refine AllReadyH.cons (o:=⟨none,_,_,_,_,_⟩) rfl (fun K hK=>?_) AllReadyH.nil
     rw [if_pos (by rfl)]
     refine wp_store_mid 66 _ _ rfl (w21.heap.size) 0 (List.toArray (prC p)) rfl rfl (VB.there (cs:= [.slice none 0 0,.slice none 0 0,.slice none 0 0,.int .i64 0,.int .u64 0,.string ⟨#[]⟩,.bool false,.int .u64 0,.string ⟨#[]⟩,.int .u64 0,.string ⟨#[]⟩,.bool false,.int .u64 0,.string ⟨#[]⟩,.int .u64 0,.string ⟨#[]⟩,.bool false,.int .u64 0,.string ⟨#[]⟩,.int .u64 0,.string ⟨#[]⟩,.bool false,.int .u64 0,.string ⟨#[]⟩,.slice none 0 0,.slice none 0 0]) ?_) info_Prb (all_oneCell_toArray HONE.out) ?_
     ·(with_reducible (repeat' (first|(refine VB.new' ?_;exact(by first|omega|(simp;done)|(simp;omega)))|apply VB.put2|apply VB.put3|apply VB.put5|refine VB.drew ?_|refine VB.far ?_ ?_ _|refine VB.alloc ?_ _|refine VB.gr ?_ HG21.out ?_|refine VB.gr ?_ HG20.out ?_|omega|(simp;done)|(simp;omega))))
     simp only [pS]
     refine hK.out _ _ ?_ (fun hQ5=>?_)
     ·have hh:=hQ4;(try dsimp only at hh ⊢);simp only [cell_sets_ne (show k1≠w21.heap.size by omega)];exact hh
     clear hK K hQ4
     refine tk 11 (some 8) (.int .i64 0) ?_
     try simp only [pS]
     refine wpAnyH_done (by kernel_rfl) ?_ _
     go_wp2_with fail
     go_meet
     refine⟨w21.heap.size,p,uu,rfl,rfl,⟨?_,?_,?_,?_⟩⟩
     ·refine VB.set (cs:= [.slice none 0 0,.slice none 0 0,.slice none 0 0,.int .i64 0,.int .u64 0,.string ⟨#[]⟩,.bool false,.int .u64 0,.string ⟨#[]⟩,.int .u64 0,.string ⟨#[]⟩,.bool false,.int .u64 0,.string ⟨#[]⟩,.int .u64 0,.string ⟨#[]⟩,.bool false,.int .u64 0,.string ⟨#[]⟩,.int .u64 0,.string ⟨#[]⟩,.bool false,.int .u64 0,.string ⟨#[]⟩,.slice none 0 0,.slice none 0 0]) ?_ (prC p) rfl
      (with_reducible (repeat' (first|(refine VB.new' ?_;exact(by first|omega|(simp;done)|(simp;omega)))|apply VB.put2|apply VB.put3|apply VB.put5|refine VB.drew ?_|refine VB.far ?_ ?_ _|refine VB.alloc ?_ _|refine VB.gr ?_ HG21.out ?_|refine VB.gr ?_ HG20.out ?_|omega|(simp;done)|(simp;omega))))
     ·exact SL.mono (Kp.sl (Kp.sets _ _ _ _) (HPF.out.2.1.gr (by(with_reducible (repeat' (first|exact Gr.refl _ _|refine Gr.drew ?_|refine Gr.setCell ?_ ?_ _|refine Gr.alloc ?_ ?_ _|refine Gr.trans ?_ (Gr.mono HG21.out ?_)|refine Gr.trans ?_ (Gr.mono HG20.out ?_)|omega|(simp;done)|(simp;omega)))))) (fun g e=>by have:=HPF.out.1.1 g e;(try simp at this);simp;omega)) (Nat.zero_le _)
     ·exact SR.mono (SR.kp (HPF.out.2.2.gr (by(with_reducible (repeat' (first|exact Gr.refl _ _|refine Gr.drew ?_|refine Gr.setCell ?_ ?_ _|refine Gr.alloc ?_ ?_ _|refine Gr.trans ?_ (Gr.mono HG21.out ?_)|refine Gr.trans ?_ (Gr.mono HG20.out ?_)|omega|(simp;done)|(simp;omega)))))) (Kp.sets _ _ _ _) (fun g e=>by have:=HPF.out.1.2 g e;(try simp at this);simp;omega)) (Nat.zero_le _)
     ·exact Gr.sets (by omega) _ _ (by(with_reducible (repeat' (first|exact Gr.refl _ _|refine Gr.drew ?_|refine Gr.setCell ?_ ?_ _|refine Gr.alloc ?_ ?_ _|refine Gr.trans ?_ (Gr.mono HG21.out ?_)|refine Gr.trans ?_ (Gr.mono HG20.out ?_)|omega|(simp;done)|(simp;omega)))))
    ·as_aux_lemma=>
     go_simp
     have ha3_0_0:k1<w20.heap.size+1:=(by omega)
     have ha3_1_0:k6<w20.heap.size+1:=(by omega)
     have ha3_2_0:wb.heap.size<w20.heap.size+1:=(by omega)
     have ha3_3_0:w20.heap.size<w20.heap.size+1:=(by omega)
     (try dsimp only)
     refine hK.out _ _ ?_ (fun hQ3=>?_)
     ·(first|exact trivial|((try dsimp only);simp [go_sem, *]))
     clear hK K hQ2
     try simp only [pS]
     refine wpAnyH_ready (rs:= [5]) (by kernel_rfl) (by simp) ?_
     refine AllReadyH.cons rfl (fun K hK=>?_) AllReadyH.nil
     go_simp
     refine(hMt.out _ sa sb sc (.slice pu lu.length cu) (wb.heap.size) (HMS.out.gr (by(with_reducible (repeat' (first|exact Gr.refl _ _|refine Gr.drew ?_|refine Gr.setCell ?_ ?_ _|refine Gr.alloc ?_ ?_ _|refine Gr.trans ?_ (Gr.mono HG20.out ?_)|omega|(simp;done)|(simp;omega)))))) ((HU6.out.gr (by(with_reducible (repeat' (first|exact Gr.refl _ _|refine Gr.drew ?_|refine Gr.setCell ?_ ?_ _|refine Gr.alloc ?_ ?_ _|refine Gr.trans ?_ (Gr.mono HG20.out ?_)|omega|(simp;done)|(simp;omega)))))).mono (Nat.zero_le _)) (by(with_reducible (repeat' (first|(refine VB.new' ?_;exact(by first|omega|(simp;done)|(simp;omega)))|apply VB.put2|apply VB.put3|apply VB.put5|refine VB.drew ?_|refine VB.far ?_ ?_ _|refine VB.alloc ?_ _|refine VB.gr ?_ HG20.out ?_|omega|(simp;done)|(simp;omega)))))).mono ?_
     rintro e w21 ⟨p,uu,rfl,hOne,hPf,hPg,hg21⟩
     (try (with_reducible replace hg21:=Gr.of_drew hg21))
     have hsz21:=hg21.size
     (try simp at hsz21)
     have hz21_0:k1<w21.heap.size:=(by omega)
     have hz21_1:k6<w21.heap.size:=(by omega)
     have hz21_2:w20.heap.size<w21.heap.size:=(by omega)
     have hz21_3:wb.heap.size<w21.heap.size:=(by omega)
     obtain ⟨hc21,hf21⟩:=hg21.cells
     have HG21:=Lib.hid hg21
     clear hg21
     have HPF:=Lib.hid (And.intro (And.intro (own_sl hPf) (fun g (e:p.gv.ownBlock=some g)=>hPg.own_lt e)) (And.intro hPf hPg))
     have HONE:=Lib.hid hOne
     clear hPf hPg hOne
     (try dsimp only)
     refine hK.out _ _ ?_ (fun hQ4=>?_)
     ·(first|exact trivial|((try dsimp only);simp [go_sem, *]))
     clear hK K hQ3
     try simp only [pS]
     refine tk 6 (some 38) (.tuple #[prV p,.int .i64 0]) ?_
     try simp only [pS]
     refine tk 7 (some 45) (prV p) ?_
     try simp only [pS]
     refine tk 8 (some 46) (.int .i64 0) ?_
     try simp only [pS]
     refine wpAnyH_ready (rs:= [10]) (by kernel_rfl) (by simp) ?_
     refine AllReadyH.cons (o:=⟨none,_,_,_,_,_⟩) rfl (fun K hK=>?_) AllReadyH.nil
     rw [if_pos (by rfl)]
     refine wp_store_mid 66 _ _ rfl (w20.heap.size) 0 (List.toArray (prC p)) rfl rfl (VB.there (cs:= [.slice none 0 0,.slice none 0 0,.slice none 0 0,.int .i64 0,.int .u64 0,.string ⟨#[]⟩,.bool false,.int .u64 0,.string ⟨#[]⟩,.int .u64 0,.string ⟨#[]⟩,.bool false,.int .u64 0,.string ⟨#[]⟩,.int .u64 0,.string ⟨#[]⟩,.bool false,.int .u64 0,.string ⟨#[]⟩,.int .u64 0,.string ⟨#[]⟩,.bool false,.int .u64 0,.string ⟨#[]⟩,.slice none 0 0,.slice none 0 0]) ?_) info_Prb (all_oneCell_toArray HONE.out) ?_
     ·(with_reducible (repeat' (first|(refine VB.new' ?_;exact(by first|omega|(simp;done)|(simp;omega)))|apply VB.put2|apply VB.put3|apply VB.put5|refine VB.drew ?_|refine VB.far ?_ ?_ _|refine VB.alloc ?_ _|refine VB.gr ?_ HG21.out ?_|refine VB.gr ?_ HG20.out ?_|omega|(simp;done)|(simp;omega))))
     simp only [pS]
     refine hK.out _ _ ?_ (fun hQ5=>?_)
     ·have hh:=hQ4;(try dsimp only at hh ⊢);simp only [cell_sets_ne (show k1≠w20.heap.size by omega)];exact hh
     clear hK K hQ4
     refine tk 11 (some 8) (.int .i64 0) ?_
     try simp only [pS]
     refine wpAnyH_done (by kernel_rfl) ?_ _
     go_wp2_with fail
     go_meet
     refine⟨w20.heap.size,p,uu,rfl,rfl,⟨?_,?_,?_,?_⟩⟩
     ·refine VB.set (cs:= [.slice none 0 0,.slice none 0 0,.slice none 0 0,.int .i64 0,.int .u64 0,.string ⟨#[]⟩,.bool false,.int .u64 0,.string ⟨#[]⟩,.int .u64 0,.string ⟨#[]⟩,.bool false,.int .u64 0,.string ⟨#[]⟩,.int .u64 0,.string ⟨#[]⟩,.bool false,.int .u64 0,.string ⟨#[]⟩,.int .u64 0,.string ⟨#[]⟩,.bool false,.int .u64 0,.string ⟨#[]⟩,.slice none 0 0,.slice none 0 0]) ?_ (prC p) rfl
      (with_reducible (repeat' (first|(refine VB.new' ?_;exact(by first|omega|(simp;done)|(simp;omega)))|apply VB.put2|apply VB.put3|apply VB.put5|refine VB.drew ?_|refine VB.far ?_ ?_ _|refine VB.alloc ?_ _|refine VB.gr ?_ HG21.out ?_|refine VB.gr ?_ HG20.out ?_|omega|(simp;done)|(simp;omega))))
     ·exact SL.mono (Kp.sl (Kp.sets _ _ _ _) (HPF.out.2.1.gr (by(with_reducible (repeat' (first|exact Gr.refl _ _|refine Gr.drew ?_|refine Gr.setCell ?_ ?_ _|refine Gr.alloc ?_ ?_ _|refine Gr.trans ?_ (Gr.mono HG21.out ?_)|refine Gr.trans ?_ (Gr.mono HG20.out ?_)|omega|(simp;done)|(simp;omega)))))) (fun g e=>by have:=HPF.out.1.1 g e;(try simp at this);simp;omega)) (Nat.zero_le _)
     ·exact SR.mono (SR.kp (HPF.out.2.2.gr (by(with_reducible (repeat' (first|exact Gr.refl _ _|refine Gr.drew ?_|refine Gr.setCell ?_ ?_ _|refine Gr.alloc ?_ ?_ _|refine Gr.trans ?_ (Gr.mono HG21.out ?_)|refine Gr.trans ?_ (Gr.mono HG20.out ?_)|omega|(simp;done)|(simp;omega)))))) (Kp.sets _ _ _ _) (fun g e=>by have:=HPF.out.1.2 g e;(try simp at this);simp;omega)) (Nat.zero_le _)
     ·exact Gr.sets (by omega) _ _ (by(with_reducible (repeat' (first|exact Gr.refl _ _|refine Gr.drew ?_|refine Gr.setCell ?_ ?_ _|refine Gr.alloc ?_ ?_ _|refine Gr.trans ?_ (Gr.mono HG21.out ?_)|refine Gr.trans ?_ (Gr.mono HG20.out ?_)|omega|(simp;done)|(simp;omega)))))
   ·as_aux_lemma=>
    go_simp
    have ha2_0_1:k1<wb.heap.size+1+1:=(by omega)
    have ha2_1_1:k6<wb.heap.size+1+1:=(by omega)
    have ha2_2_1:wb.heap.size<wb.heap.size+1+1:=(by omega)
    have ha2_3_1:wb.heap.size+1<wb.heap.size+1+1:=(by omega)
    (try dsimp only)
    refine hK.out _ _ ?_ (fun hQ2=>?_)
    ·(first|exact trivial|((try dsimp only);simp [go_sem, *]))
    clear hK K hQ1
    try simp only [pS]
    refine wpAnyH_ready (rs:= [0]) (by kernel_rfl) (by simp) ?_
    refine AllReadyH.cons rfl (fun K hK=>?_) AllReadyH.nil
    go_simp
    refine(hSq.out _).mono ?_
    rintro e w20 ⟨sa,sb,sc,rfl,hMs,hg20⟩
    (try (with_reducible replace hg20:=Gr.of_drew hg20))
    have hsz20:=hg20.size
    (try simp at hsz20)
    have hz20_0:k1<w20.heap.size:=(by omega)
    have hz20_1:k6<w20.heap.size:=(by omega)
    have hz20_2:wb.heap.size+1<w20.heap.size:=(by omega)
    have hz20_3:wb.heap.size<w20.heap.size:=(by omega)
    obtain ⟨hc20,hf20⟩:=hg20.cells
    have HG20:=Lib.hid hg20
    clear hg20
    have HMS:=Lib.hid hMs
    clear hMs
    (try dsimp only)
    refine hK.out _ _ ?_ (fun hQ3=>?_)
    ·(first|exact trivial|((try dsimp only);simp [go_sem, *]))
    clear hK K hQ2
    try simp only [pS]
    refine wpAnyH_ready (rs:= [5]) (by kernel_rfl) (by simp) ?_
    refine AllReadyH.cons rfl (fun K hK=>?_) AllReadyH.nil
    go_simp
    refine(hMt.out _ sa sb sc (.slice pu lu.length cu) (wb.heap.size) (HMS.out.gr (by(with_reducible (repeat' (first|exact Gr.refl _ _|refine Gr.drew ?_|refine Gr.setCell ?_ ?_ _|refine Gr.alloc ?_ ?_ _|refine Gr.trans ?_ (Gr.mono HG20.out ?_)|omega|(simp;done)|(simp;omega)))))) ((HU6.out.gr (by(with_reducible (repeat' (first|exact Gr.refl _ _|refine Gr.drew ?_|refine Gr.setCell ?_ ?_ _|refine Gr.alloc ?_ ?_ _|refine Gr.trans ?_ (Gr.mono HG20.out ?_)|omega|(simp;done)|(simp;omega)))))).mono (Nat.zero_le _)) (by(with_reducible (repeat' (first|(refine VB.new' ?_;exact(by first|omega|(simp;done)|(simp;omega)))|apply VB.put2|apply VB.put3|apply VB.put5|refine VB.drew ?_|refine VB.far ?_ ?_ _|refine VB.alloc ?_ _|refine VB.gr ?_ HG20.out ?_|omega|(simp;done)|(simp;omega)))))).mono ?_
    rintro e w21 ⟨p,uu,rfl,hOne,hPf,hPg,hg21⟩
    (try (with_reducible replace hg21:=Gr.of_drew hg21))
    have hsz21:=hg21.size
    (try simp at hsz21)
    have hz21_0:k1<w21.heap.size:=(by omega)
    have hz21_1:k6<w21.heap.size:=(by omega)
    have hz21_2:wb.heap.size+1<w21.heap.size:=(by omega)
    have hz21_3:wb.heap.size<w21.heap.size:=(by omega)
    obtain ⟨hc21,hf21⟩:=hg21.cells
    have HG21:=Lib.hid hg21
    clear hg21
    have HPF:=Lib.hid (And.intro (And.intro (own_sl hPf) (fun g (e:p.gv.ownBlock=some g)=>hPg.own_lt e)) (And.intro hPf hPg))
    have HONE:=Lib.hid hOne
    clear hPf hPg hOne
    (try dsimp only)
    refine hK.out _ _ ?_ (fun hQ4=>?_)
    ·(first|exact trivial|((try dsimp only);simp [go_sem, *]))
    clear hK K hQ3
    try simp only [pS]
    refine tk 6 (some 38) (.tuple #[prV p,.int .i64 0]) ?_
    try simp only [pS]
    refine tk 7 (some 45) (prV p) ?_
    try simp only [pS]
    refine tk 8 (some 46) (.int .i64 0) ?_
    try simp only [pS]
    refine wpAnyH_ready (rs:= [10]) (by kernel_rfl) (by simp) ?_
    refine AllReadyH.cons (o:=⟨none,_,_,_,_,_⟩) rfl (fun K hK=>?_) AllReadyH.nil
    rw [if_pos (by rfl)]
    refine wp_store_mid 66 _ _ rfl (wb.heap.size+1) 0 (List.toArray (prC p)) rfl rfl (VB.there (cs:= [.slice none 0 0,.slice none 0 0,.slice none 0 0,.int .i64 0,.int .u64 0,.string ⟨#[]⟩,.bool false,.int .u64 0,.string ⟨#[]⟩,.int .u64 0,.string ⟨#[]⟩,.bool false,.int .u64 0,.string ⟨#[]⟩,.int .u64 0,.string ⟨#[]⟩,.bool false,.int .u64 0,.string ⟨#[]⟩,.int .u64 0,.string ⟨#[]⟩,.bool false,.int .u64 0,.string ⟨#[]⟩,.slice none 0 0,.slice none 0 0]) ?_) info_Prb (all_oneCell_toArray HONE.out) ?_
    ·(with_reducible (repeat' (first|(refine VB.new' ?_;exact(by first|omega|(simp;done)|(simp;omega)))|apply VB.put2|apply VB.put3|apply VB.put5|refine VB.drew ?_|refine VB.far ?_ ?_ _|refine VB.alloc ?_ _|refine VB.gr ?_ HG21.out ?_|refine VB.gr ?_ HG20.out ?_|omega|(simp;done)|(simp;omega))))
    simp only [pS]
    refine hK.out _ _ ?_ (fun hQ5=>?_)
    ·have hh:=hQ4;(try dsimp only at hh ⊢);simp only [cell_sets_ne (show k1≠wb.heap.size+1 by omega)];exact hh
    clear hK K hQ4
    refine tk 11 (some 8) (.int .i64 0) ?_
    try simp only [pS]
    refine wpAnyH_done (by kernel_rfl) ?_ _
    go_wp2_with fail
    go_meet
    refine⟨wb.heap.size+1,p,uu,rfl,rfl,⟨?_,?_,?_,?_⟩⟩
    ·refine VB.set (cs:= [.slice none 0 0,.slice none 0 0,.slice none 0 0,.int .i64 0,.int .u64 0,.string ⟨#[]⟩,.bool false,.int .u64 0,.string ⟨#[]⟩,.int .u64 0,.string ⟨#[]⟩,.bool false,.int .u64 0,.string ⟨#[]⟩,.int .u64 0,.string ⟨#[]⟩,.bool false,.int .u64 0,.string ⟨#[]⟩,.int .u64 0,.string ⟨#[]⟩,.bool false,.int .u64 0,.string ⟨#[]⟩,.slice none 0 0,.slice none 0 0]) ?_ (prC p) rfl
     (with_reducible (repeat' (first|(refine VB.new' ?_;exact(by first|omega|(simp;done)|(simp;omega)))|apply VB.put2|apply VB.put3|apply VB.put5|refine VB.drew ?_|refine VB.far ?_ ?_ _|refine VB.alloc ?_ _|refine VB.gr ?_ HG21.out ?_|refine VB.gr ?_ HG20.out ?_|omega|(simp;done)|(simp;omega))))
    ·exact SL.mono (Kp.sl (Kp.sets _ _ _ _) (HPF.out.2.1.gr (by(with_reducible (repeat' (first|exact Gr.refl _ _|refine Gr.drew ?_|refine Gr.setCell ?_ ?_ _|refine Gr.alloc ?_ ?_ _|refine Gr.trans ?_ (Gr.mono HG21.out ?_)|refine Gr.trans ?_ (Gr.mono HG20.out ?_)|omega|(simp;done)|(simp;omega)))))) (fun g e=>by have:=HPF.out.1.1 g e;(try simp at this);simp;omega)) (Nat.zero_le _)
    ·exact SR.mono (SR.kp (HPF.out.2.2.gr (by(with_reducible (repeat' (first|exact Gr.refl _ _|refine Gr.drew ?_|refine Gr.setCell ?_ ?_ _|refine Gr.alloc ?_ ?_ _|refine Gr.trans ?_ (Gr.mono HG21.out ?_)|refine Gr.trans ?_ (Gr.mono HG20.out ?_)|omega|(simp;done)|(simp;omega)))))) (Kp.sets _ _ _ _) (fun g e=>by have:=HPF.out.1.2 g e;(try simp at this);simp;omega)) (Nat.zero_le _)
    ·exact Gr.sets (by omega) _ _ (by(with_reducible (repeat' (first|exact Gr.refl _ _|refine Gr.drew ?_|refine Gr.setCell ?_ ?_ _|refine Gr.alloc ?_ ?_ _|refine Gr.trans ?_ (Gr.mono HG21.out ?_)|refine Gr.trans ?_ (Gr.mono HG20.out ?_)|omega|(simp;done)|(simp;omega)))))
  ·as_aux_lemma=>
   go_simp
   have ha1_0_0:k1<wb.heap.size+1:=(by omega)
   have ha1_1_0:k6<wb.heap.size+1:=(by omega)
   have ha1_2_0:wb.heap.size<wb.heap.size+1:=(by omega)
   (try dsimp only)
   refine hK.out _ _ ?_ (fun hQ1=>?_)
   ·(first|exact trivial|((try dsimp only);simp [go_sem, *]))
   clear hK K hHeld
   try simp only [pS]
   refine wpAnyH_ready (rs:= [0,4]) (by kernel_rfl) (by simp) ?_
   refine AllReadyH.cons rfl (fun K hK=>?_) (AllReadyH.cons rfl (fun K hK=>?_) AllReadyH.nil)
   ·as_aux_lemma=>
    go_simp
    refine(hSq.out _).mono ?_
    rintro e w20 ⟨sa,sb,sc,rfl,hMs,hg20⟩
    (try (with_reducible replace hg20:=Gr.of_drew hg20))
    have hsz20:=hg20.size
    (try simp at hsz20)
    have hz20_0:k1<w20.heap.size:=(by omega)
    have hz20_1:k6<w20.heap.size:=(by omega)
    have hz20_2:wb.heap.size<w20.heap.size:=(by omega)
    obtain ⟨hc20,hf20⟩:=hg20.cells
    have HG20:=Lib.hid hg20
    clear hg20
    have HMS:=Lib.hid hMs
    clear hMs
    (try dsimp only)
    refine hK.out _ _ ?_ (fun hQ2=>?_)
    ·(first|exact trivial|((try dsimp only);simp [go_sem, *]))
    clear hK K hQ1
    try simp only [pS]
    refine wpAnyH_ready (rs:= [4]) (by kernel_rfl) (by simp) ?_
    refine AllReadyH.cons rfl (fun K hK=>?_) AllReadyH.nil
    go_simp
    have ha3_0_0:k1<w20.heap.size+1:=(by omega)
    have ha3_1_0:k6<w20.heap.size+1:=(by omega)
    have ha3_2_0:wb.heap.size<w20.heap.size+1:=(by omega)
    have ha3_3_0:w20.heap.size<w20.heap.size+1:=(by omega)
    (try dsimp only)
    refine hK.out _ _ ?_ (fun hQ3=>?_)
    ·(first|exact trivial|((try dsimp only);simp [go_sem, *]))
    clear hK K hQ2
    try simp only [pS]
    refine wpAnyH_ready (rs:= [5]) (by kernel_rfl) (by simp) ?_
    refine AllReadyH.cons rfl (fun K hK=>?_) AllReadyH.nil
    go_simp
    refine(hMt.out _ sa sb sc (.slice pu lu.length cu) (w20.heap.size) (HMS.out.gr (by(with_reducible (repeat' (first|exact Gr.refl _ _|refine Gr.drew ?_|refine Gr.setCell ?_ ?_ _|refine Gr.alloc ?_ ?_ _|refine Gr.trans ?_ (Gr.mono HG20.out ?_)|omega|(simp;done)|(simp;omega)))))) ((HU6.out.gr (by(with_reducible (repeat' (first|exact Gr.refl _ _|refine Gr.drew ?_|refine Gr.setCell ?_ ?_ _|refine Gr.alloc ?_ ?_ _|refine Gr.trans ?_ (Gr.mono HG20.out ?_)|omega|(simp;done)|(simp;omega)))))).mono (Nat.zero_le _)) (by(with_reducible (repeat' (first|(refine VB.new' ?_;exact(by first|omega|(simp;done)|(simp;omega)))|apply VB.put2|apply VB.put3|apply VB.put5|refine VB.drew ?_|refine VB.far ?_ ?_ _|refine VB.alloc ?_ _|refine VB.gr ?_ HG20.out ?_|omega|(simp;done)|(simp;omega)))))).mono ?_
    rintro e w21 ⟨p,uu,rfl,hOne,hPf,hPg,hg21⟩
    (try (with_reducible replace hg21:=Gr.of_drew hg21))
    have hsz21:=hg21.size
    (try simp at hsz21)
    have hz21_0:k1<w21.heap.size:=(by omega)
    have hz21_1:k6<w21.heap.size:=(by omega)
    have hz21_2:wb.heap.size<w21.heap.size:=(by omega)
    have hz21_3:w20.heap.size<w21.heap.size:=(by omega)
    obtain ⟨hc21,hf21⟩:=hg21.cells
    have HG21:=Lib.hid hg21
    clear hg21
    have HPF:=Lib.hid (And.intro (And.intro (own_sl hPf) (fun g (e:p.gv.ownBlock=some g)=>hPg.own_lt e)) (And.intro hPf hPg))
    have HONE:=Lib.hid hOne
    clear hPf hPg hOne
    (try dsimp only)
    refine hK.out _ _ ?_ (fun hQ4=>?_)
    ·(first|exact trivial|((try dsimp only);simp [go_sem, *]))
    clear hK K hQ3
    try simp only [pS]
    refine tk 6 (some 38) (.tuple #[prV p,.int .i64 0]) ?_
    try simp only [pS]
    refine tk 7 (some 45) (prV p) ?_
    try simp only [pS]
    refine tk 8 (some 46) (.int .i64 0) ?_
    try simp only [pS]
    refine wpAnyH_ready (rs:= [10]) (by kernel_rfl) (by simp) ?_
    refine AllReadyH.cons (o:=⟨none,_,_,_,_,_⟩) rfl (fun K hK=>?_) AllReadyH.nil
    rw [if_pos (by rfl)]
    refine wp_store_mid 66 _ _ rfl (wb.heap.size) 0 (List.toArray (prC p)) rfl rfl (VB.there (cs:= [.slice none 0 0,.slice none 0 0,.slice none 0 0,.int .i64 0,.int .u64 0,.string ⟨#[]⟩,.bool false,.int .u64 0,.string ⟨#[]⟩,.int .u64 0,.string ⟨#[]⟩,.bool false,.int .u64 0,.string ⟨#[]⟩,.int .u64 0,.string ⟨#[]⟩,.bool false,.int .u64 0,.string ⟨#[]⟩,.int .u64 0,.string ⟨#[]⟩,.bool false,.int .u64 0,.string ⟨#[]⟩,.slice none 0 0,.slice none 0 0]) ?_) info_Prb (all_oneCell_toArray HONE.out) ?_
    ·(with_reducible (repeat' (first|(refine VB.new' ?_;exact(by first|omega|(simp;done)|(simp;omega)))|apply VB.put2|apply VB.put3|apply VB.put5|refine VB.drew ?_|refine VB.far ?_ ?_ _|refine VB.alloc ?_ _|refine VB.gr ?_ HG21.out ?_|refine VB.gr ?_ HG20.out ?_|omega|(simp;done)|(simp;omega))))
    simp only [pS]
    refine hK.out _ _ ?_ (fun hQ5=>?_)
    ·have hh:=hQ4;(try dsimp only at hh ⊢);simp only [cell_sets_ne (show k1≠wb.heap.size by omega)];exact hh
    clear hK K hQ4
    refine tk 11 (some 8) (.int .i64 0) ?_
    try simp only [pS]
    refine wpAnyH_done (by kernel_rfl) ?_ _
    go_wp2_with fail
    go_meet
    refine⟨wb.heap.size,p,uu,rfl,rfl,⟨?_,?_,?_,?_⟩⟩
    ·refine VB.set (cs:= [.slice none 0 0,.slice none 0 0,.slice none 0 0,.int .i64 0,.int .u64 0,.string ⟨#[]⟩,.bool false,.int .u64 0,.string ⟨#[]⟩,.int .u64 0,.string ⟨#[]⟩,.bool false,.int .u64 0,.string ⟨#[]⟩,.int .u64 0,.string ⟨#[]⟩,.bool false,.int .u64 0,.string ⟨#[]⟩,.int .u64 0,.string ⟨#[]⟩,.bool false,.int .u64 0,.string ⟨#[]⟩,.slice none 0 0,.slice none 0 0]) ?_ (prC p) rfl
     (with_reducible (repeat' (first|(refine VB.new' ?_;exact(by first|omega|(simp;done)|(simp;omega)))|apply VB.put2|apply VB.put3|apply VB.put5|refine VB.drew ?_|refine VB.far ?_ ?_ _|refine VB.alloc ?_ _|refine VB.gr ?_ HG21.out ?_|refine VB.gr ?_ HG20.out ?_|omega|(simp;done)|(simp;omega))))
    ·exact SL.mono (Kp.sl (Kp.sets _ _ _ _) (HPF.out.2.1.gr (by(with_reducible (repeat' (first|exact Gr.refl _ _|refine Gr.drew ?_|refine Gr.setCell ?_ ?_ _|refine Gr.alloc ?_ ?_ _|refine Gr.trans ?_ (Gr.mono HG21.out ?_)|refine Gr.trans ?_ (Gr.mono HG20.out ?_)|omega|(simp;done)|(simp;omega)))))) (fun g e=>by have:=HPF.out.1.1 g e;(try simp at this);simp;omega)) (Nat.zero_le _)
    ·exact SR.mono (SR.kp (HPF.out.2.2.gr (by(with_reducible (repeat' (first|exact Gr.refl _ _|refine Gr.drew ?_|refine Gr.setCell ?_ ?_ _|refine Gr.alloc ?_ ?_ _|refine Gr.trans ?_ (Gr.mono HG21.out ?_)|refine Gr.trans ?_ (Gr.mono HG20.out ?_)|omega|(simp;done)|(simp;omega)))))) (Kp.sets _ _ _ _) (fun g e=>by have:=HPF.out.1.2 g e;(try simp at this);simp;omega)) (Nat.zero_le _)
    ·exact Gr.sets (by omega) _ _ (by(with_reducible (repeat' (first|exact Gr.refl _ _|refine Gr.drew ?_|refine Gr.setCell ?_ ?_ _|refine Gr.alloc ?_ ?_ _|refine Gr.trans ?_ (Gr.mono HG21.out ?_)|refine Gr.trans ?_ (Gr.mono HG20.out ?_)|omega|(simp;done)|(simp;omega)))))
   ·as_aux_lemma=>
    go_simp
    have ha2_0_1:k1<wb.heap.size+1+1:=(by omega)
    have ha2_1_1:k6<wb.heap.size+1+1:=(by omega)
    have ha2_2_1:wb.heap.size<wb.heap.size+1+1:=(by omega)
    have ha2_3_1:wb.heap.size+1<wb.heap.size+1+1:=(by omega)
    (try dsimp only)
    refine hK.out _ _ ?_ (fun hQ2=>?_)
    ·(first|exact trivial|((try dsimp only);simp [go_sem, *]))
    clear hK K hQ1
    try simp only [pS]
    refine wpAnyH_ready (rs:= [0]) (by kernel_rfl) (by simp) ?_
    refine AllReadyH.cons rfl (fun K hK=>?_) AllReadyH.nil
    go_simp
    refine(hSq.out _).mono ?_
    rintro e w20 ⟨sa,sb,sc,rfl,hMs,hg20⟩
    (try (with_reducible replace hg20:=Gr.of_drew hg20))
    have hsz20:=hg20.size
    (try simp at hsz20)
    have hz20_0:k1<w20.heap.size:=(by omega)
    have hz20_1:k6<w20.heap.size:=(by omega)
    have hz20_2:wb.heap.size<w20.heap.size:=(by omega)
    have hz20_3:wb.heap.size+1<w20.heap.size:=(by omega)
    obtain ⟨hc20,hf20⟩:=hg20.cells
    have HG20:=Lib.hid hg20
    clear hg20
    have HMS:=Lib.hid hMs
    clear hMs
    (try dsimp only)
    refine hK.out _ _ ?_ (fun hQ3=>?_)
    ·(first|exact trivial|((try dsimp only);simp [go_sem, *]))
    clear hK K hQ2
    try simp only [pS]
    refine wpAnyH_ready (rs:= [5]) (by kernel_rfl) (by simp) ?_
    refine AllReadyH.cons rfl (fun K hK=>?_) AllReadyH.nil
    go_simp
    refine(hMt.out _ sa sb sc (.slice pu lu.length cu) (wb.heap.size+1) (HMS.out.gr (by(with_reducible (repeat' (first|exact Gr.refl _ _|refine Gr.drew ?_|refine Gr.setCell ?_ ?_ _|refine Gr.alloc ?_ ?_ _|refine Gr.trans ?_ (Gr.mono HG20.out ?_)|omega|(simp;done)|(simp;omega)))))) ((HU6.out.gr (by(with_reducible (repeat' (first|exact Gr.refl _ _|refine Gr.drew ?_|refine Gr.setCell ?_ ?_ _|refine Gr.alloc ?_ ?_ _|refine Gr.trans ?_ (Gr.mono HG20.out ?_)|omega|(simp;done)|(simp;omega)))))).mono (Nat.zero_le _)) (by(with_reducible (repeat' (first|(refine VB.new' ?_;exact(by first|omega|(simp;done)|(simp;omega)))|apply VB.put2|apply VB.put3|apply VB.put5|refine VB.drew ?_|refine VB.far ?_ ?_ _|refine VB.alloc ?_ _|refine VB.gr ?_ HG20.out ?_|omega|(simp;done)|(simp;omega)))))).mono ?_
    rintro e w21 ⟨p,uu,rfl,hOne,hPf,hPg,hg21⟩
    (try (with_reducible replace hg21:=Gr.of_drew hg21))
    have hsz21:=hg21.size
    (try simp at hsz21)
    have hz21_0:k1<w21.heap.size:=(by omega)
    have hz21_1:k6<w21.heap.size:=(by omega)
    have hz21_2:wb.heap.size<w21.heap.size:=(by omega)
    have hz21_3:wb.heap.size+1<w21.heap.size:=(by omega)
    obtain ⟨hc21,hf21⟩:=hg21.cells
    have HG21:=Lib.hid hg21
    clear hg21
    have HPF:=Lib.hid (And.intro (And.intro (own_sl hPf) (fun g (e:p.gv.ownBlock=some g)=>hPg.own_lt e)) (And.intro hPf hPg))
    have HONE:=Lib.hid hOne
    clear hPf hPg hOne
    (try dsimp only)
    refine hK.out _ _ ?_ (fun hQ4=>?_)
    ·(first|exact trivial|((try dsimp only);simp [go_sem, *]))
    clear hK K hQ3
    try simp only [pS]
    refine tk 6 (some 38) (.tuple #[prV p,.int .i64 0]) ?_
    try simp only [pS]
    refine tk 7 (some 45) (prV p) ?_
    try simp only [pS]
    refine tk 8 (some 46) (.int .i64 0) ?_
    try simp only [pS]
    refine wpAnyH_ready (rs:= [10]) (by kernel_rfl) (by simp) ?_
    refine AllReadyH.cons (o:=⟨none,_,_,_,_,_⟩) rfl (fun K hK=>?_) AllReadyH.nil
    rw [if_pos (by rfl)]
    refine wp_store_mid 66 _ _ rfl (wb.heap.size) 0 (List.toArray (prC p)) rfl rfl (VB.there (cs:= [.slice none 0 0,.slice none 0 0,.slice none 0 0,.int .i64 0,.int .u64 0,.string ⟨#[]⟩,.bool false,.int .u64 0,.string ⟨#[]⟩,.int .u64 0,.string ⟨#[]⟩,.bool false,.int .u64 0,.string ⟨#[]⟩,.int .u64 0,.string ⟨#[]⟩,.bool false,.int .u64 0,.string ⟨#[]⟩,.int .u64 0,.string ⟨#[]⟩,.bool false,.int .u64 0,.string ⟨#[]⟩,.slice none 0 0,.slice none 0 0]) ?_) info_Prb (all_oneCell_toArray HONE.out) ?_
    ·(with_reducible (repeat' (first|(refine VB.new' ?_;exact(by first|omega|(simp;done)|(simp;omega)))|apply VB.put2|apply VB.put3|apply VB.put5|refine VB.drew ?_|refine VB.far ?_ ?_ _|refine VB.alloc ?_ _|refine VB.gr ?_ HG21.out ?_|refine VB.gr ?_ HG20.out ?_|omega|(simp;done)|(simp;omega))))
    simp only [pS]
    refine hK.out _ _ ?_ (fun hQ5=>?_)
    ·have hh:=hQ4;(try dsimp only at hh ⊢);simp only [cell_sets_ne (show k1≠wb.heap.size by omega)];exact hh
    clear hK K hQ4
    refine tk 11 (some 8) (.int .i64 0) ?_
    try simp only [pS]
    refine wpAnyH_done (by kernel_rfl) ?_ _
    go_wp2_with fail
    go_meet
    refine⟨wb.heap.size,p,uu,rfl,rfl,⟨?_,?_,?_,?_⟩⟩
    ·refine VB.set (cs:= [.slice none 0 0,.slice none 0 0,.slice none 0 0,.int .i64 0,.int .u64 0,.string ⟨#[]⟩,.bool false,.int .u64 0,.string ⟨#[]⟩,.int .u64 0,.string ⟨#[]⟩,.bool false,.int .u64 0,.string ⟨#[]⟩,.int .u64 0,.string ⟨#[]⟩,.bool false,.int .u64 0,.string ⟨#[]⟩,.int .u64 0,.string ⟨#[]⟩,.bool false,.int .u64 0,.string ⟨#[]⟩,.slice none 0 0,.slice none 0 0]) ?_ (prC p) rfl
     (with_reducible (repeat' (first|(refine VB.new' ?_;exact(by first|omega|(simp;done)|(simp;omega)))|apply VB.put2|apply VB.put3|apply VB.put5|refine VB.drew ?_|refine VB.far ?_ ?_ _|refine VB.alloc ?_ _|refine VB.gr ?_ HG21.out ?_|refine VB.gr ?_ HG20.out ?_|omega|(simp;done)|(simp;omega))))
    ·exact SL.mono (Kp.sl (Kp.sets _ _ _ _) (HPF.out.2.1.gr (by(with_reducible (repeat' (first|exact Gr.refl _ _|refine Gr.drew ?_|refine Gr.setCell ?_ ?_ _|refine Gr.alloc ?_ ?_ _|refine Gr.trans ?_ (Gr.mono HG21.out ?_)|refine Gr.trans ?_ (Gr.mono HG20.out ?_)|omega|(simp;done)|(simp;omega)))))) (fun g e=>by have:=HPF.out.1.1 g e;(try simp at this);simp;omega)) (Nat.zero_le _)
    ·exact SR.mono (SR.kp (HPF.out.2.2.gr (by(with_reducible (repeat' (first|exact Gr.refl _ _|refine Gr.drew ?_|refine Gr.setCell ?_ ?_ _|refine Gr.alloc ?_ ?_ _|refine Gr.trans ?_ (Gr.mono HG21.out ?_)|refine Gr.trans ?_ (Gr.mono HG20.out ?_)|omega|(simp;done)|(simp;omega)))))) (Kp.sets _ _ _ _) (fun g e=>by have:=HPF.out.1.2 g e;(try simp at this);simp;omega)) (Nat.zero_le _)
    ·exact Gr.sets (by omega) _ _ (by(with_reducible (repeat' (first|exact Gr.refl _ _|refine Gr.drew ?_|refine Gr.setCell ?_ ?_ _|refine Gr.alloc ?_ ?_ _|refine Gr.trans ?_ (Gr.mono HG21.out ?_)|refine Gr.trans ?_ (Gr.mono HG20.out ?_)|omega|(simp;done)|(simp;omega)))))
 case rest=>
  as_aux_lemma=>
  obtain ⟨g7,p,uu,rfl,rfl,hL⟩:=hcut
  obtain ⟨gg,gcap,hgv,_,_,_,hsg,hRg⟩:=hL.g.block (by simp)
  obtain ⟨pf,cf,hpf⟩:=hL.f.at
  have hgl:=hsg.lt
  have hkl:=hL.v.lt
  have hsz5:=hL.gr.size
  have HV:=Lib.hid hL.v
  have HFf:=Lib.hid hL.f
  have HRg:=Lib.hid hRg
  have HPV:=Lib.hid (And.intro hgv hpf)
  have HK:=Lib.hid (HK6.out.gr hL.gr hb1)
  have H6:=Lib.hid (HV6.out.gr hL.gr hs6)
  have HU:=Lib.hid (HU6.out.gr hL.gr)
  have HP:=Lib.hid (And.intro (HP6.out.1.gr hL.gr) (HP6.out.2.gr hL.gr))
  have HWd:=Lib.hid (HW6.out.trans (hL.gr.mono (by omega)))
  have hk1l:=HK.out.lt
  have hk6l:=H6.out.lt
  clear hL HK6 HV6 HU6 HP6 HW6 hgv hpf hRg hsg a0 a1 a2 a3 a4 a5 a6 a7 a8 a9 a10 a11 a12 a13 a14
  have hu1:=HK.out
  have a0:=hu1.c 0 _ rfl
  have a1:=hu1.c 1 _ rfl
  have a2:=hu1.c 2 _ rfl
  have a3:=hu1.c 3 _ rfl
  have a4:=hu1.c 4 _ rfl
  have a5:=hu1.c 5 _ rfl
  have a6:=hu1.c 6 _ rfl
  have a7:=hu1.c 7 _ rfl
  have a8:=hu1.c 8 _ rfl
  have a9:=hu1.c 9 _ rfl
  have a10:=hu1.c 10 _ rfl
  have a11:=hu1.c 11 _ rfl
  have a12:=hu1.c 12 _ rfl
  have a13:=hu1.c 13 _ rfl
  have a14:=hu1.c 14 _ rfl
  clear hu1
  go_upto_region 6 with fail
  generalize wc=wd at *
  go_cut [10] (fun y wx=>y= .int .i64 6∧Gr wd.heap.size wd wx)
  case first=>
   as_aux_lemma=>
   refine wp_region_held_drew (S:=(fun w'=>w'.cell? ⟨k1,0,none⟩=some (.int .u64 (lowN (sz r1.num)))∧w'.cell? ⟨k1,1,none⟩=some (.string (bigS (sz r1.num)))∧w'.cell? ⟨k1,2,none⟩=some (.bool (ng r1.num))∧w'.cell? ⟨k1,3,none⟩=some (.int .u64 (lowN (fm r1)))∧w'.cell? ⟨k1,4,none⟩=some (.string (bigS (fm r1)))∧w'.cell? ⟨k1,5,none⟩=some (.int .u64 0)∧w'.cell? ⟨k1,6,none⟩=some (.string ⟨#[]⟩)∧w'.cell? ⟨k1,7,none⟩=some (.bool false)∧w'.cell? ⟨k1,8,none⟩=some (.int .u64 0)∧w'.cell? ⟨k1,9,none⟩=some (.string ⟨#[]⟩)∧w'.cell? ⟨k1,10,none⟩=some (.int .u64 (lowN (sz r1.num)))∧w'.cell? ⟨k1,11,none⟩=some (.string (bigS (sz r1.num)))∧w'.cell? ⟨k1,12,none⟩=some (.bool (ng r1.num))∧w'.cell? ⟨k1,13,none⟩=some (.int .u64 (lowN (fm r1)))∧w'.cell? ⟨k1,14,none⟩=some (.string (bigS (fm r1))))) (by kernel_rfl) ?_ (fun hHeld=>?_)
   ·simp [go_sem, *]
   refine tk 1 (some 49) (.agg #[.int .u64 (lowN (sz r1.num)),.string (bigS (sz r1.num)),.bool (ng r1.num),.int .u64 (lowN (fm r1)),.string (bigS (fm r1)),.int .u64 0,.string ⟨#[]⟩,.bool false,.int .u64 0,.string ⟨#[]⟩,.int .u64 (lowN (sz r1.num)),.string (bigS (sz r1.num)),.bool (ng r1.num),.int .u64 (lowN (fm r1)),.string (bigS (fm r1))]) ?_
   try simp only [pS]
   refine tk 2 (some 50) (.agg #[.int .u64 0,.string ⟨#[]⟩,.bool false,.int .u64 0,.string ⟨#[]⟩]) ?_
   try simp only [pS]
   refine tk 3 (some 51) (.slice pu lu.length cu) ?_
   try simp only [pS]
   refine wpAnyH_ready (rs:= [0,8]) (by kernel_rfl) (by simp) ?_
   refine AllReadyH.cons rfl (fun K hK=>?_) (AllReadyH.cons rfl (fun K hK=>?_) AllReadyH.nil)
   ·as_aux_lemma=>
    go_simp
    refine(hSq.out _).mono ?_
    rintro e w20 ⟨sa,sb,sc,rfl,hMs,hg20⟩
    (try (with_reducible replace hg20:=Gr.of_drew hg20))
    have hsz20:=hg20.size
    (try simp at hsz20)
    have hz20_0:k1<w20.heap.size:=(by omega)
    have hz20_1:k6<w20.heap.size:=(by omega)
    obtain ⟨hc20,hf20⟩:=hg20.cells
    have HG20:=Lib.hid hg20
    clear hg20
    have HMS:=Lib.hid hMs
    clear hMs
    (try dsimp only)
    refine hK.out _ _ ?_ (fun hQ1=>?_)
    ·(first|exact trivial|((try dsimp only);simp [go_sem, *]))
    clear hK K hHeld
    try simp only [pS]
    refine wpAnyH_ready (rs:= [4,8]) (by kernel_rfl) (by simp) ?_
    refine AllReadyH.cons rfl (fun K hK=>?_) (AllReadyH.cons rfl (fun K hK=>?_) AllReadyH.nil)
    ·as_aux_lemma=>
     go_simp
     refine(hMf.out _ sa sb sc (.slice pu lu.length cu) (HMS.out.gr (by(with_reducible (repeat' (first|exact Gr.refl _ _|refine Gr.drew ?_|refine Gr.setCell ?_ ?_ _|refine Gr.alloc ?_ ?_ _|refine Gr.trans ?_ (Gr.mono HG20.out ?_)|omega|(simp;done)|(simp;omega)))))) ((HU.out.gr (by(with_reducible (repeat' (first|exact Gr.refl _ _|refine Gr.drew ?_|refine Gr.setCell ?_ ?_ _|refine Gr.alloc ?_ ?_ _|refine Gr.trans ?_ (Gr.mono HG20.out ?_)|omega|(simp;done)|(simp;omega)))))).mono (Nat.zero_le _))).mono ?_
     rintro e w21 ⟨rfl,hg21⟩
     (try (with_reducible replace hg21:=Gr.of_drew hg21))
     have hsz21:=hg21.size
     (try simp at hsz21)
     have hz21_0:k1<w21.heap.size:=(by omega)
     have hz21_1:k6<w21.heap.size:=(by omega)
     obtain ⟨hc21,hf21⟩:=hg21.cells
     have HG21:=Lib.hid hg21
     clear hg21
     (try dsimp only)
     refine hK.out _ _ ?_ (fun hQ2=>?_)
     ·(first|exact trivial|((try dsimp only);simp [go_sem, *]))
     clear hK K hQ1
     try simp only [pS]
     refine tk 5 (some 47) (.tuple #[.agg #[.slice none 0 0,.slice none 0 0,.slice none 0 0,.int .i64 0,.int .u64 0,.string ⟨#[]⟩,.bool false,.int .u64 0,.string ⟨#[]⟩,.int .u64 0,.string ⟨#[]⟩,.bool false,.int .u64 0,.string ⟨#[]⟩,.int .u64 0,.string ⟨#[]⟩,.bool false,.int .u64 0,.string ⟨#[]⟩,.int .u64 0,.string ⟨#[]⟩,.bool false,.int .u64 0,.string ⟨#[]⟩,.slice none 0 0,.slice none 0 0],.int .i64 6]) ?_
     try simp only [pS]
     refine tk 6 (some 53) (.agg #[.slice none 0 0,.slice none 0 0,.slice none 0 0,.int .i64 0,.int .u64 0,.string ⟨#[]⟩,.bool false,.int .u64 0,.string ⟨#[]⟩,.int .u64 0,.string ⟨#[]⟩,.bool false,.int .u64 0,.string ⟨#[]⟩,.int .u64 0,.string ⟨#[]⟩,.bool false,.int .u64 0,.string ⟨#[]⟩,.int .u64 0,.string ⟨#[]⟩,.bool false,.int .u64 0,.string ⟨#[]⟩,.slice none 0 0,.slice none 0 0]) ?_
     try simp only [pS]
     refine tk 7 (some 54) (.int .i64 6) ?_
     try simp only [pS]
     refine wpAnyH_ready (rs:= [8]) (by kernel_rfl) (by simp) ?_
     refine AllReadyH.cons rfl (fun K hK=>?_) AllReadyH.nil
     go_simp
     have ha3_0_0:k1<w21.heap.size+1:=(by omega)
     have ha3_1_0:k6<w21.heap.size+1:=(by omega)
     have ha3_2_0:w21.heap.size<w21.heap.size+1:=(by omega)
     (try dsimp only)
     refine hK.out _ _ ?_ (fun hQ3=>?_)
     ·(first|exact trivial|((try dsimp only);simp [go_sem, *]))
     clear hK K hQ2
     try simp only [pS]
     refine wpAnyH_ready (rs:= [9]) (by kernel_rfl) (by simp) ?_
     refine AllReadyH.cons (o:=⟨none,_,_,_,_,_⟩) rfl (fun K hK=>?_) AllReadyH.nil
     rw [if_pos (by rfl)]
     refine wp_store_mid 66 _ _ rfl (w21.heap.size) 0 (List.toArray [.slice none 0 0,.slice none 0 0,.slice none 0 0,.int .i64 0,.int .u64 0,.string ⟨#[]⟩,.bool false,.int .u64 0,.string ⟨#[]⟩,.int .u64 0,.string ⟨#[]⟩,.bool false,.int .u64 0,.string ⟨#[]⟩,.int .u64 0,.string ⟨#[]⟩,.bool false,.int .u64 0,.string ⟨#[]⟩,.int .u64 0,.string ⟨#[]⟩,.bool false,.int .u64 0,.string ⟨#[]⟩,.slice none 0 0,.slice none 0 0]) rfl rfl (VB.there (cs:= [.slice none 0 0,.slice none 0 0,.slice none 0 0,.int .i64 0,.int .u64 0,.string ⟨#[]⟩,.bool false,.int .u64 0,.string ⟨#[]⟩,.int .u64 0,.string ⟨#[]⟩,.bool false,.int .u64 0,.string ⟨#[]⟩,.int .u64 0,.string ⟨#[]⟩,.bool false,.int .u64 0,.string ⟨#[]⟩,.int .u64 0,.string ⟨#[]⟩,.bool false,.int .u64 0,.string ⟨#[]⟩,.slice none 0 0,.slice none 0 0]) ?_) info_Prb (by first|rfl|simp [Value.oneCell']) ?_
     ·(with_reducible (repeat' (first|(refine VB.new' ?_;exact(by first|omega|(simp;done)|(simp;omega)))|apply VB.put2|apply VB.put3|apply VB.put5|refine VB.drew ?_|refine VB.far ?_ ?_ _|refine VB.alloc ?_ _|refine VB.gr ?_ HG21.out ?_|refine VB.gr ?_ HG20.out ?_|omega|(simp;done)|(simp;omega))))
     simp only [pS]
     refine hK.out _ _ ?_ (fun hQ4=>?_)
     ·have hh:=hQ3;(try dsimp only at hh ⊢);simp only [cell_sets_ne (show k1≠w21.heap.size by omega)];exact hh
     clear hK K hQ3
     refine tk 10 (some 10) (.int .i64 6) ?_
     try simp only [pS]
     refine wpAnyH_done (by kernel_rfl) ?_ _
     go_wp2_with fail
     go_meet
     refine⟨rfl,Gr.sets (by omega) _ _ (by(with_reducible (repeat' (first|exact Gr.refl _ _|refine Gr.drew ?_|refine Gr.setCell ?_ ?_ _|refine Gr.alloc ?_ ?_ _|refine Gr.trans ?_ (Gr.mono HG21.out ?_)|refine Gr.trans ?_ (Gr.mono HG20.out ?_)|omega|(simp;done)|(simp;omega)))))⟩
    ·as_aux_lemma=>
     go_simp
     have ha2_0_0:k1<w20.heap.size+1:=(by omega)
     have ha2_1_0:k6<w20.heap.size+1:=(by omega)
     have ha2_2_0:w20.heap.size<w20.heap.size+1:=(by omega)
     (try dsimp only)
     refine hK.out _ _ ?_ (fun hQ2=>?_)
     ·(first|exact trivial|((try dsimp only);simp [go_sem, *]))
     clear hK K hQ1
     try simp only [pS]
     refine wpAnyH_ready (rs:= [4]) (by kernel_rfl) (by simp) ?_
     refine AllReadyH.cons rfl (fun K hK=>?_) AllReadyH.nil
     go_simp
     refine(hMf.out _ sa sb sc (.slice pu lu.length cu) (HMS.out.gr (by(with_reducible (repeat' (first|exact Gr.refl _ _|refine Gr.drew ?_|refine Gr.setCell ?_ ?_ _|refine Gr.alloc ?_ ?_ _|refine Gr.trans ?_ (Gr.mono HG20.out ?_)|omega|(simp;done)|(simp;omega)))))) ((HU.out.gr (by(with_reducible (repeat' (first|exact Gr.refl _ _|refine Gr.drew ?_|refine Gr.setCell ?_ ?_ _|refine Gr.alloc ?_ ?_ _|refine Gr.trans ?_ (Gr.mono HG20.out ?_)|omega|(simp;done)|(simp;omega)))))).mono (Nat.zero_le _))).mono ?_
     rintro e w21 ⟨rfl,hg21⟩
     (try (with_reducible replace hg21:=Gr.of_drew hg21))
     have hsz21:=hg21.size
     (try simp at hsz21)
     have hz21_0:k1<w21.heap.size:=(by omega)
     have hz21_1:k6<w21.heap.size:=(by omega)
     have hz21_2:w20.heap.size<w21.heap.size:=(by omega)
     obtain ⟨hc21,hf21⟩:=hg21.cells
     have HG21:=Lib.hid hg21
     clear hg21
     (try dsimp only)
     refine hK.out _ _ ?_ (fun hQ3=>?_)
     ·(first|exact trivial|((try dsimp only);simp [go_sem, *]))
     clear hK K hQ2
     try simp only [pS]
     refine tk 5 (some 47) (.tuple #[.agg #[.slice none 0 0,.slice none 0 0,.slice none 0 0,.int .i64 0,.int .u64 0,.string ⟨#[]⟩,.bool false,.int .u64 0,.string ⟨#[]⟩,.int .u64 0,.string ⟨#[]⟩,.bool false,.int .u64 0,.string ⟨#[]⟩,.int .u64 0,.string ⟨#[]⟩,.bool false,.int .u64 0,.string ⟨#[]⟩,.int .u64 0,.string ⟨#[]⟩,.bool false,.int .u64 0,.string ⟨#[]⟩,.slice none 0 0,.slice none 0 0],.int .i64 6]) ?_
     try simp only [pS]
     refine tk 6 (some 53) (.agg #[.slice none 0 0,.slice none 0 0,.slice none 0 0,.int .i64 0,.int .u64 0,.string ⟨#[]⟩,.bool false,.int .u64 0,.string ⟨#[]⟩,.int .u64 0,.string ⟨#[]⟩,.bool false,.int .u64 0,.string ⟨#[]⟩,.int .u64 0,.string ⟨#[]⟩,.bool false,.int .u64 0,.string ⟨#[]⟩,.int .u64 0,.string ⟨#[]⟩,.bool false,.int .u64 0,.string ⟨#[]⟩,.slice none 0 0,.slice none 0 0]) ?_
     try simp only [pS]
     refine tk 7 (some 54) (.int .i64 6) ?_
     try simp only [pS]
     refine wpAnyH_ready (rs:= [9]) (by kernel_rfl) (by simp) ?_
     refine AllReadyH.cons (o:=⟨none,_,_,_,_,_⟩) rfl (fun K hK=>?_) AllReadyH.nil
     rw [if_pos (by rfl)]
     refine wp_store_mid 66 _ _ rfl (w20.heap.size) 0 (List.toArray [.slice none 0 0,.slice none 0 0,.slice none 0 0,.int .i64 0,.int .u64 0,.string ⟨#[]⟩,.bool false,.int .u64 0,.string ⟨#[]⟩,.int .u64 0,.string ⟨#[]⟩,.bool false,.int .u64 0,.string ⟨#[]⟩,.int .u64 0,.string ⟨#[]⟩,.bool false,.int .u64 0,.string ⟨#[]⟩,.int .u64 0,.string ⟨#[]⟩,.bool false,.int .u64 0,.string ⟨#[]⟩,.slice none 0 0,.slice none 0 0]) rfl rfl (VB.there (cs:= [.slice none 0 0,.slice none 0 0,.slice none 0 0,.int .i64 0,.int .u64 0,.string ⟨#[]⟩,.bool false,.int .u64 0,.string ⟨#[]⟩,.int .u64 0,.string ⟨#[]⟩,.bool false,.int .u64 0,.string ⟨#[]⟩,.int .u64 0,.string ⟨#[]⟩,.bool false,.int .u64 0,.string ⟨#[]⟩,.int .u64 0,.string ⟨#[]⟩,.bool false,.int .u64 0,.string ⟨#[]⟩,.slice none 0 0,.slice none 0 0]) ?_) info_Prb (by first|rfl|simp [Value.oneCell']) ?_
     ·(with_reducible (repeat' (first|(refine VB.new' ?_;exact(by first|omega|(simp;done)|(simp;omega)))|apply VB.put2|apply VB.put3|apply VB.put5|refine VB.drew ?_|refine VB.far ?_ ?_ _|refine VB.alloc ?_ _|refine VB.gr ?_ HG21.out ?_|refine VB.gr ?_ HG20.out ?_|omega|(simp;done)|(simp;omega))))
     simp only [pS]
     refine hK.out _ _ ?_ (fun hQ4=>?_)
     ·have hh:=hQ3;(try dsimp only at hh ⊢);simp only [cell_sets_ne (show k1≠w20.heap.size by omega)];exact hh
     clear hK K hQ3
     refine tk 10 (some 10) (.int .i64 6) ?_
     try simp only [pS]
     refine wpAnyH_done (by kernel_rfl) ?_ _
     go_wp2_with fail
     go_meet
     refine⟨rfl,Gr.sets (by omega) _ _ (by(with_reducible (repeat' (first|exact Gr.refl _ _|refine Gr.drew ?_|refine Gr.setCell ?_ ?_ _|refine Gr.alloc ?_ ?_ _|refine Gr.trans ?_ (Gr.mono HG21.out ?_)|refine Gr.trans ?_ (Gr.mono HG20.out ?_)|omega|(simp;done)|(simp;omega)))))⟩
   ·as_aux_lemma=>
    go_simp
    have ha1_0_0:k1<wd.heap.size+1:=(by omega)
    have ha1_1_0:k6<wd.heap.size+1:=(by omega)
    have ha1_2_0:wd.heap.size<wd.heap.size+1:=(by omega)
    (try dsimp only)
    refine hK.out _ _ ?_ (fun hQ1=>?_)
    ·(first|exact trivial|((try dsimp only);simp [go_sem, *]))
    clear hK K hHeld
    try simp only [pS]
    refine wpAnyH_ready (rs:= [0]) (by kernel_rfl) (by simp) ?_
    refine AllReadyH.cons rfl (fun K hK=>?_) AllReadyH.nil
    go_simp
    refine(hSq.out _).mono ?_
    rintro e w20 ⟨sa,sb,sc,rfl,hMs,hg20⟩
    (try (with_reducible replace hg20:=Gr.of_drew hg20))
    have hsz20:=hg20.size
    (try simp at hsz20)
    have hz20_0:k1<w20.heap.size:=(by omega)
    have hz20_1:k6<w20.heap.size:=(by omega)
    have hz20_2:wd.heap.size<w20.heap.size:=(by omega)
    obtain ⟨hc20,hf20⟩:=hg20.cells
    have HG20:=Lib.hid hg20
    clear hg20
    have HMS:=Lib.hid hMs
    clear hMs
    (try dsimp only)
    refine hK.out _ _ ?_ (fun hQ2=>?_)
    ·(first|exact trivial|((try dsimp only);simp [go_sem, *]))
    clear hK K hQ1
    try simp only [pS]
    refine wpAnyH_ready (rs:= [4]) (by kernel_rfl) (by simp) ?_
    refine AllReadyH.cons rfl (fun K hK=>?_) AllReadyH.nil
    go_simp
    refine(hMf.out _ sa sb sc (.slice pu lu.length cu) (HMS.out.gr (by(with_reducible (repeat' (first|exact Gr.refl _ _|refine Gr.drew ?_|refine Gr.setCell ?_ ?_ _|refine Gr.alloc ?_ ?_ _|refine Gr.trans ?_ (Gr.mono HG20.out ?_)|omega|(simp;done)|(simp;omega)))))) ((HU.out.gr (by(with_reducible (repeat' (first|exact Gr.refl _ _|refine Gr.drew ?_|refine Gr.setCell ?_ ?_ _|refine Gr.alloc ?_ ?_ _|refine Gr.trans ?_ (Gr.mono HG20.out ?_)|omega|(simp;done)|(simp;omega)))))).mono (Nat.zero_le _))).mono ?_
    rintro e w21 ⟨rfl,hg21⟩
    (try (with_reducible replace hg21:=Gr.of_drew hg21))
    have hsz21:=hg21.size
    (try simp at hsz21)
    have hz21_0:k1<w21.heap.size:=(by omega)
    have hz21_1:k6<w21.heap.size:=(by omega)
    have hz21_2:wd.heap.size<w21.heap.size:=(by omega)
    obtain ⟨hc21,hf21⟩:=hg21.cells
    have HG21:=Lib.hid hg21
    clear hg21
    (try dsimp only)
    refine hK.out _ _ ?_ (fun hQ3=>?_)
    ·(first|exact trivial|((try dsimp only);simp [go_sem, *]))
    clear hK K hQ2
    try simp only [pS]
    refine tk 5 (some 47) (.tuple #[.agg #[.slice none 0 0,.slice none 0 0,.slice none 0 0,.int .i64 0,.int .u64 0,.string ⟨#[]⟩,.bool false,.int .u64 0,.string ⟨#[]⟩,.int .u64 0,.string ⟨#[]⟩,.bool false,.int .u64 0,.string ⟨#[]⟩,.int .u64 0,.string ⟨#[]⟩,.bool false,.int .u64 0,.string ⟨#[]⟩,.int .u64 0,.string ⟨#[]⟩,.bool false,.int .u64 0,.string ⟨#[]⟩,.slice none 0 0,.slice none 0 0],.int .i64 6]) ?_
    try simp only [pS]
    refine tk 6 (some 53) (.agg #[.slice none 0 0,.slice none 0 0,.slice none 0 0,.int .i64 0,.int .u64 0,.string ⟨#[]⟩,.bool false,.int .u64 0,.string ⟨#[]⟩,.int .u64 0,.string ⟨#[]⟩,.bool false,.int .u64 0,.string ⟨#[]⟩,.int .u64 0,.string ⟨#[]⟩,.bool false,.int .u64 0,.string ⟨#[]⟩,.int .u64 0,.string ⟨#[]⟩,.bool false,.int .u64 0,.string ⟨#[]⟩,.slice none 0 0,.slice none 0 0]) ?_
    try simp only [pS]
    refine tk 7 (some 54) (.int .i64 6) ?_
    try simp only [pS]
    refine wpAnyH_ready (rs:= [9]) (by kernel_rfl) (by simp) ?_
    refine AllReadyH.cons (o:=⟨none,_,_,_,_,_⟩) rfl (fun K hK=>?_) AllReadyH.nil
    rw [if_pos (by rfl)]
    refine wp_store_mid 66 _ _ rfl (wd.heap.size) 0 (List.toArray [.slice none 0 0,.slice none 0 0,.slice none 0 0,.int .i64 0,.int .u64 0,.string ⟨#[]⟩,.bool false,.int .u64 0,.string ⟨#[]⟩,.int .u64 0,.string ⟨#[]⟩,.bool false,.int .u64 0,.string ⟨#[]⟩,.int .u64 0,.string ⟨#[]⟩,.bool false,.int .u64 0,.string ⟨#[]⟩,.int .u64 0,.string ⟨#[]⟩,.bool false,.int .u64 0,.string ⟨#[]⟩,.slice none 0 0,.slice none 0 0]) rfl rfl (VB.there (cs:= [.slice none 0 0,.slice none 0 0,.slice none 0 0,.int .i64 0,.int .u64 0,.string ⟨#[]⟩,.bool false,.int .u64 0,.string ⟨#[]⟩,.int .u64 0,.string ⟨#[]⟩,.bool false,.int .u64 0,.string ⟨#[]⟩,.int .u64 0,.string ⟨#[]⟩,.bool false,.int .u64 0,.string ⟨#[]⟩,.int .u64 0,.string ⟨#[]⟩,.bool false,.int .u64 0,.string ⟨#[]⟩,.slice none 0 0,.slice none 0 0]) ?_) info_Prb (by first|rfl|simp [Value.oneCell']) ?_
    ·(with_reducible (repeat' (first|(refine VB.new' ?_;exact(by first|omega|(simp;done)|(simp;omega)))|apply VB.put2|apply VB.put3|apply VB.put5|refine VB.drew ?_|refine VB.far ?_ ?_ _|refine VB.alloc ?_ _|refine VB.gr ?_ HG21.out ?_|refine VB.gr ?_ HG20.out ?_|omega|(simp;done)|(simp;omega))))
    simp only [pS]
    refine hK.out _ _ ?_ (fun hQ4=>?_)
    ·have hh:=hQ3;(try dsimp only at hh ⊢);simp only [cell_sets_ne (show k1≠wd.heap.size by omega)];exact hh
    clear hK K hQ3
    refine tk 10 (some 10) (.int .i64 6) ?_
    try simp only [pS]
    refine wpAnyH_done (by kernel_rfl) ?_ _
    go_wp2_with fail
    go_meet
    refine⟨rfl,Gr.sets (by omega) _ _ (by(with_reducible (repeat' (first|exact Gr.refl _ _|refine Gr.drew ?_|refine Gr.setCell ?_ ?_ _|refine Gr.alloc ?_ ?_ _|refine Gr.trans ?_ (Gr.mono HG21.out ?_)|refine Gr.trans ?_ (Gr.mono HG20.out ?_)|omega|(simp;done)|(simp;omega)))))⟩
  case rest=>
   as_aux_lemma=>
   obtain ⟨rfl,hgr⟩:=hcut
   have hszd:=hgr.size
   have HV2:=Lib.hid (HV.out.gr hgr hkl)
   have HK2:=Lib.hid (HK.out.gr hgr hk1l)
   have H62:=Lib.hid (H6.out.gr hgr hk6l)
   have HF2:=Lib.hid (HFf.out.gr hgr)
   have HU2:=Lib.hid (HU.out.gr hgr)
   have HP2:=Lib.hid (And.intro (HP.out.1.gr hgr) (HP.out.2.gr hgr))
   have HW2:=Lib.hid (HWd.out.trans (hgr.mono (by have:=HWd.out.size;omega)))
   obtain ⟨d0,d1,_,_,_⟩:=(HRg.out.gr hgr hgl).fGv (j:=0) (by simp) rfl
   simp at d0 d1
   have t24:=HV2.out.c 24 _ rfl
   have t25:=HV2.out.c 25 _ rfl
   rw [HPV.out.1]at t25
   rw [HPV.out.2]at t24
   have hb0:k1<wc.heap.size:=by omega
   have hb1':k6<wc.heap.size:=by omega
   have hb2:g7<wc.heap.size:=by omega
   have hb3:gg<wc.heap.size:=by omega
   have z0:=H62.out.c 0 _ rfl
   have z1:=H62.out.c 1 _ rfl
   clear HV HK H6 HFf HU HP HWd hgr a0 a1 a2 a3 a4 a5 a6 a7 a8 a9 a10 a11 a12 a13 a14
   have hu1:=HK2.out
   have a0:=hu1.c 0 _ rfl
   have a1:=hu1.c 1 _ rfl
   have a2:=hu1.c 2 _ rfl
   have a3:=hu1.c 3 _ rfl
   have a4:=hu1.c 4 _ rfl
   have a5:=hu1.c 5 _ rfl
   have a6:=hu1.c 6 _ rfl
   have a7:=hu1.c 7 _ rfl
   have a8:=hu1.c 8 _ rfl
   have a9:=hu1.c 9 _ rfl
   have a10:=hu1.c 10 _ rfl
   have a11:=hu1.c 11 _ rfl
   have a12:=hu1.c 12 _ rfl
   have a13:=hu1.c 13 _ rfl
   have a14:=hu1.c 14 _ rfl
   clear hu1
   go_wp2_with fail
   refine(hS0.out _ (.slice pu lu.length cu) (HU2.out.mono (Nat.zero_le _))).mono ?_
   rintro e w20 ⟨vs,rfl,hPs,hg20⟩
   have hsz20:=hg20.size
   obtain ⟨hc20,hf20⟩:=hg20.cells
   have HG20:=Lib.hid hg20
   have HPs:=Lib.hid hPs
   clear hg20 hPs
   have hz20_0:k1<w20.heap.size:=by omega
   have hz20_1:k6<w20.heap.size:=by omega
   have hz20_2:g7<w20.heap.size:=by omega
   have hz20_3:gg<w20.heap.size:=by omega
   go_wp2_with fail
   refine wp_region_held_drew (S:=(fun w'=>w'.cell? ⟨k1,0,none⟩=some (.int .u64 (lowN (sz r1.num)))∧w'.cell? ⟨k1,1,none⟩=some (.string (bigS (sz r1.num)))∧w'.cell? ⟨k1,2,none⟩=some (.bool (ng r1.num))∧w'.cell? ⟨k1,3,none⟩=some (.int .u64 (lowN (fm r1)))∧w'.cell? ⟨k1,4,none⟩=some (.string (bigS (fm r1)))∧w'.cell? ⟨k1,5,none⟩=some (.int .u64 0)∧w'.cell? ⟨k1,6,none⟩=some (.string ⟨#[]⟩)∧w'.cell? ⟨k1,7,none⟩=some (.bool false)∧w'.cell? ⟨k1,8,none⟩=some (.int .u64 0)∧w'.cell? ⟨k1,9,none⟩=some (.string ⟨#[]⟩)∧w'.cell? ⟨k1,10,none⟩=some (.int .u64 (lowN (sz r1.num)))∧w'.cell? ⟨k1,11,none⟩=some (.string (bigS (sz r1.num)))∧w'.cell? ⟨k1,12,none⟩=some (.bool (ng r1.num))∧w'.cell? ⟨k1,13,none⟩=some (.int .u64 (lowN (fm r1)))∧w'.cell? ⟨k1,14,none⟩=some (.string (bigS (fm r1)))∧w'.cell? ⟨k6,0,none⟩=some (.slice p1 l0.length c1)∧w'.cell? ⟨k6,1,none⟩=some (.slice p2 l1.length c2)∧w'.cell? ⟨g7,24,none⟩=some (.slice pf ls.length cf)∧w'.cell? ⟨g7,25,none⟩=some (.slice (some ⟨gg,0,none⟩) 1 gcap)∧w'.cell? ⟨gg,0,none⟩=some (.int .i64 0)∧w'.cell? ⟨gg,1,none⟩=some (.bool true))) (by kernel_rfl) ?_ (fun hHeld=>?_)
   ·simp [go_sem, *]
   refine tk 0 (some 79) (vs) ?_
   try simp only [pS]
   refine rd 1 (fun K hK=>?_)
   go_simp
   (refine(hI4.out _).mono ?_;rintro e w21 ⟨rfl,hg21⟩;(try (with_reducible replace hg21:=Gr.of_drew hg21));have hsz21:=hg21.size;(try simp at hsz21);have hy21_0:k1<w21.heap.size:=(by omega);have hy21_1:k6<w21.heap.size:=(by omega);have hy21_2:g7<w21.heap.size:=(by omega);have hy21_3:gg<w21.heap.size:=(by omega);obtain ⟨hc21,hf21⟩:=hg21.cells;have HG21:=Lib.hid hg21;clear hg21)
   (try dsimp only)
   refine hK.out _ _ ?_ (fun hQ1=>?_)
   ·(first|exact trivial|((try dsimp only);simp [go_sem, *]))
   clear hK K hHeld
   try simp only [pS]
   refine rd 2 (fun K hK=>?_)
   go_simp
   (refine(hCo.out _).mono ?_;rintro e w22 ⟨v22,rfl,hS22,hg22⟩;(try (with_reducible replace hg22:=Gr.of_drew hg22));have hsz22:=hg22.size;(try simp at hsz22);have hy22_0:k1<w22.heap.size:=(by omega);have hy22_1:k6<w22.heap.size:=(by omega);have hy22_2:g7<w22.heap.size:=(by omega);have hy22_3:gg<w22.heap.size:=(by omega);obtain ⟨hc22,hf22⟩:=hg22.cells;have HG22:=Lib.hid hg22;clear hg22;have HS22:=Lib.hid hS22;clear hS22)
   (try dsimp only)
   refine hK.out _ _ ?_ (fun hQ2=>?_)
   ·(first|exact trivial|((try dsimp only);simp [go_sem, *]))
   clear hK K hQ1
   try simp only [pS]
   refine rd 3 (fun K hK=>?_)
   go_simp
   (refine(hE1.out _ _ _ ((HPs.out.gr (by(with_reducible (repeat' (first|exact Gr.refl _ _|refine Gr.drew ?_|refine Gr.setCell ?_ ?_ _|refine Gr.alloc ?_ ?_ _|refine Gr.trans ?_ (Gr.mono HG22.out ?_)|refine Gr.trans ?_ (Gr.mono HG21.out ?_)|omega|(simp;done)|(simp;omega)))))).mono (Nat.zero_le _)) ((HS22.out.gr (by(with_reducible (repeat' (first|exact Gr.refl _ _|refine Gr.drew ?_|refine Gr.setCell ?_ ?_ _|refine Gr.alloc ?_ ?_ _|omega|(simp;done)|(simp;omega)))))).mono (Nat.zero_le _))).mono ?_;rintro e w23 ⟨rfl,hg23⟩;(try (with_reducible replace hg23:=Gr.of_drew hg23));have hsz23:=hg23.size;(try simp at hsz23);have hy23_0:k1<w23.heap.size:=(by omega);have hy23_1:k6<w23.heap.size:=(by omega);have hy23_2:g7<w23.heap.size:=(by omega);have hy23_3:gg<w23.heap.size:=(by omega);obtain ⟨hc23,hf23⟩:=hg23.cells;have HG23:=Lib.hid hg23;clear hg23)
   (try dsimp only)
   refine hK.out _ _ ?_ (fun hQ3=>?_)
   ·(first|exact trivial|((try dsimp only);simp [go_sem, *]))
   clear hK K hQ2
   try simp only [pS]
   refine tk 4 (some 83) (.bool true) ?_
   try simp only [pS]
   refine tk 5 (some 84) (.agg #[.int .u64 (lowN (sz r1.num)),.string (bigS (sz r1.num)),.bool (ng r1.num),.int .u64 (lowN (fm r1)),.string (bigS (fm r1)),.int .u64 0,.string ⟨#[]⟩,.bool false,.int .u64 0,.string ⟨#[]⟩,.int .u64 (lowN (sz r1.num)),.string (bigS (sz r1.num)),.bool (ng r1.num),.int .u64 (lowN (fm r1)),.string (bigS (fm r1))]) ?_
   try simp only [pS]
   refine tk 7 (some 86) (.slice pu lu.length cu) ?_
   try simp only [pS]
   refine tk 9 (some 88) (vs) ?_
   try simp only [pS]
   refine tk 10 (some 89) (.slice pu lu.length cu) ?_
   try simp only [pS]
   refine rd 6 (fun K hK=>?_)
   go_simp
   (refine(hI1.out _).mono ?_;rintro e w24 ⟨rfl,hg24⟩;(try (with_reducible replace hg24:=Gr.of_drew hg24));have hsz24:=hg24.size;(try simp at hsz24);have hy24_0:k1<w24.heap.size:=(by omega);have hy24_1:k6<w24.heap.size:=(by omega);have hy24_2:g7<w24.heap.size:=(by omega);have hy24_3:gg<w24.heap.size:=(by omega);obtain ⟨hc24,hf24⟩:=hg24.cells;have HG24:=Lib.hid hg24;clear hg24)
   (try dsimp only)
   refine hK.out _ _ ?_ (fun hQ4=>?_)
   ·(first|exact trivial|((try dsimp only);simp [go_sem, *]))
   clear hK K hQ3
   try simp only [pS]
   refine rd 8 (fun K hK=>?_)
   go_simp
   (refine(hS1.out _ (.slice pu lu.length cu) ((HU2.out.gr (by(with_reducible (repeat' (first|exact Gr.refl _ _|refine Gr.drew ?_|refine Gr.setCell ?_ ?_ _|refine Gr.alloc ?_ ?_ _|refine Gr.trans ?_ (Gr.mono HG24.out ?_)|refine Gr.trans ?_ (Gr.mono HG23.out ?_)|refine Gr.trans ?_ (Gr.mono HG22.out ?_)|refine Gr.trans ?_ (Gr.mono HG21.out ?_)|refine Gr.trans ?_ (Gr.mono HG20.out ?_)|omega|(simp;done)|(simp;omega)))))).mono (Nat.zero_le _))).mono ?_;rintro e w25 ⟨v25,rfl,hS25,hg25⟩;(try (with_reducible replace hg25:=Gr.of_drew hg25));have hsz25:=hg25.size;(try simp at hsz25);have hy25_0:k1<w25.heap.size:=(by omega);have hy25_1:k6<w25.heap.size:=(by omega);have hy25_2:g7<w25.heap.size:=(by omega);have hy25_3:gg<w25.heap.size:=(by omega);obtain ⟨hc25,hf25⟩:=hg25.cells;have HG25:=Lib.hid hg25;clear hg25;have HS25:=Lib.hid hS25;clear hS25)
   (try dsimp only)
   refine hK.out _ _ ?_ (fun hQ5=>?_)
   ·(first|exact trivial|((try dsimp only);simp [go_sem, *]))
   clear hK K hQ4
   try simp only [pS]
   refine rd 11 (fun K hK=>?_)
   go_simp
   (refine(hA1.out _ vs (.slice pu lu.length cu) ((HPs.out.gr (by(with_reducible (repeat' (first|exact Gr.refl _ _|refine Gr.drew ?_|refine Gr.setCell ?_ ?_ _|refine Gr.alloc ?_ ?_ _|refine Gr.trans ?_ (Gr.mono HG25.out ?_)|refine Gr.trans ?_ (Gr.mono HG24.out ?_)|refine Gr.trans ?_ (Gr.mono HG23.out ?_)|refine Gr.trans ?_ (Gr.mono HG22.out ?_)|refine Gr.trans ?_ (Gr.mono HG21.out ?_)|omega|(simp;done)|(simp;omega)))))).mono (Nat.zero_le _)) ((HU2.out.gr (by(with_reducible (repeat' (first|exact Gr.refl _ _|refine Gr.drew ?_|refine Gr.setCell ?_ ?_ _|refine Gr.alloc ?_ ?_ _|refine Gr.trans ?_ (Gr.mono HG25.out ?_)|refine Gr.trans ?_ (Gr.mono HG24.out ?_)|refine Gr.trans ?_ (Gr.mono HG23.out ?_)|refine Gr.trans ?_ (Gr.mono HG22.out ?_)|refine Gr.trans ?_ (Gr.mono HG21.out ?_)|refine Gr.trans ?_ (Gr.mono HG20.out ?_)|omega|(simp;done)|(simp;omega)))))).mono (Nat.zero_le _))).mono ?_;rintro e w26 ⟨v26,rfl,hS26,hg26⟩;(try (with_reducible replace hg26:=Gr.of_drew hg26));have hsz26:=hg26.size;(try simp at hsz26);have hy26_0:k1<w26.heap.size:=(by omega);have hy26_1:k6<w26.heap.size:=(by omega);have hy26_2:g7<w26.heap.size:=(by omega);have hy26_3:gg<w26.heap.size:=(by omega);obtain ⟨hc26,hf26⟩:=hg26.cells;have HG26:=Lib.hid hg26;clear hg26;have HS26:=Lib.hid hS26;clear hS26)
   (try dsimp only)
   refine hK.out _ _ ?_ (fun hQ6=>?_)
   ·(first|exact trivial|((try dsimp only);simp [go_sem, *]))
   clear hK K hQ5
   try simp only [pS]
   refine rd 12 (fun K hK=>?_)
   go_simp
   (refine(hE2.out _ _ _ ((HS25.out.gr (by(with_reducible (repeat' (first|exact Gr.refl _ _|refine Gr.drew ?_|refine Gr.setCell ?_ ?_ _|refine Gr.alloc ?_ ?_ _|refine Gr.trans ?_ (Gr.mono HG26.out ?_)|omega|(simp;done)|(simp;omega)))))).mono (Nat.zero_le _)) ((HS26.out.gr (by(with_reducible (repeat' (first|exact Gr.refl _ _|refine Gr.drew ?_|refine Gr.setCell ?_ ?_ _|refine Gr.alloc ?_ ?_ _|omega|(simp;done)|(simp;omega)))))).mono (Nat.zero_le _))).mono ?_;rintro e w27 ⟨rfl,hg27⟩;(try (with_reducible replace hg27:=Gr.of_drew hg27));have hsz27:=hg27.size;(try simp at hsz27);have hy27_0:k1<w27.heap.size:=(by omega);have hy27_1:k6<w27.heap.size:=(by omega);have hy27_2:g7<w27.heap.size:=(by omega);have hy27_3:gg<w27.heap.size:=(by omega);obtain ⟨hc27,hf27⟩:=hg27.cells;have HG27:=Lib.hid hg27;clear hg27)
   (try dsimp only)
   refine hK.out _ _ ?_ (fun hQ7=>?_)
   ·(first|exact trivial|((try dsimp only);simp [go_sem, *]))
   clear hK K hQ6
   try simp only [pS]
   refine tk 13 (some 92) (.bool true) ?_
   try simp only [pS]
   refine tk 14 (some 93) (.bool true) ?_
   try simp only [pS]
   refine tk 15 (some 94) (.pointer (some ⟨k6,0,none⟩)) ?_
   try simp only [pS]
   refine tk 16 (some 95) (.slice p1 l0.length c1) ?_
   try simp only [pS]
   refine rd 17 (fun K hK=>?_)
   go_simp
   (refine(hY.out _).mono ?_;rintro e w28 ⟨v28,rfl,hS28,hg28⟩;(try (with_reducible replace hg28:=Gr.of_drew hg28));have hsz28:=hg28.size;(try simp at hsz28);have hy28_0:k1<w28.heap.size:=(by omega);have hy28_1:k6<w28.heap.size:=(by omega);have hy28_2:g7<w28.heap.size:=(by omega);have hy28_3:gg<w28.heap.size:=(by omega);obtain ⟨hc28,hf28⟩:=hg28.cells;have HG28:=Lib.hid hg28;clear hg28;have HS28:=Lib.hid hS28;clear hS28)
   (try dsimp only)
   refine hK.out _ _ ?_ (fun hQ8=>?_)
   ·(first|exact trivial|((try dsimp only);simp [go_sem, *]))
   clear hK K hQ7
   try simp only [pS]
   refine rd 18 (fun K hK=>?_)
   go_simp
   (refine(hI2.out _).mono ?_;rintro e w29 ⟨rfl,hg29⟩;(try (with_reducible replace hg29:=Gr.of_drew hg29));have hsz29:=hg29.size;(try simp at hsz29);have hy29_0:k1<w29.heap.size:=(by omega);have hy29_1:k6<w29.heap.size:=(by omega);have hy29_2:g7<w29.heap.size:=(by omega);have hy29_3:gg<w29.heap.size:=(by omega);obtain ⟨hc29,hf29⟩:=hg29.cells;have HG29:=Lib.hid hg29;clear hg29)
   (try dsimp only)
   refine hK.out _ _ ?_ (fun hQ9=>?_)
   ·(first|exact trivial|((try dsimp only);simp [go_sem, *]))
   clear hK K hQ8
   try simp only [pS]
   refine rd 19 (fun K hK=>?_)
   go_simp
   (refine(hSc2.out _ _ ((HS28.out.gr (by(with_reducible (repeat' (first|exact Gr.refl _ _|refine Gr.drew ?_|refine Gr.setCell ?_ ?_ _|refine Gr.alloc ?_ ?_ _|refine Gr.trans ?_ (Gr.mono HG29.out ?_)|omega|(simp;done)|(simp;omega)))))).mono (Nat.zero_le _))).mono ?_;rintro e w30 ⟨v30,rfl,hS30,hg30⟩;(try (with_reducible replace hg30:=Gr.of_drew hg30));have hsz30:=hg30.size;(try simp at hsz30);have hy30_0:k1<w30.heap.size:=(by omega);have hy30_1:k6<w30.heap.size:=(by omega);have hy30_2:g7<w30.heap.size:=(by omega);have hy30_3:gg<w30.heap.size:=(by omega);obtain ⟨hc30,hf30⟩:=hg30.cells;have HG30:=Lib.hid hg30;clear hg30;have HS30:=Lib.hid hS30;clear hS30)
   (try dsimp only)
   refine hK.out _ _ ?_ (fun hQ10=>?_)
   ·(first|exact trivial|((try dsimp only);simp [go_sem, *]))
   clear hK K hQ9
   try simp only [pS]
   refine rd 20 (fun K hK=>?_)
   go_simp
   (refine(hX.out _).mono ?_;rintro e w31 ⟨v31,rfl,hS31,hg31⟩;(try (with_reducible replace hg31:=Gr.of_drew hg31));have hsz31:=hg31.size;(try simp at hsz31);have hy31_0:k1<w31.heap.size:=(by omega);have hy31_1:k6<w31.heap.size:=(by omega);have hy31_2:g7<w31.heap.size:=(by omega);have hy31_3:gg<w31.heap.size:=(by omega);obtain ⟨hc31,hf31⟩:=hg31.cells;have HG31:=Lib.hid hg31;clear hg31;have HS31:=Lib.hid hS31;clear hS31)
   (try dsimp only)
   refine hK.out _ _ ?_ (fun hQ11=>?_)
   ·(first|exact trivial|((try dsimp only);simp [go_sem, *]))
   clear hK K hQ10
   try simp only [pS]
   refine rd 21 (fun K hK=>?_)
   go_simp
   (refine(hA2.out _ _ _ ((HS30.out.gr (by(with_reducible (repeat' (first|exact Gr.refl _ _|refine Gr.drew ?_|refine Gr.setCell ?_ ?_ _|refine Gr.alloc ?_ ?_ _|refine Gr.trans ?_ (Gr.mono HG31.out ?_)|omega|(simp;done)|(simp;omega)))))).mono (Nat.zero_le _)) ((HS31.out.gr (by(with_reducible (repeat' (first|exact Gr.refl _ _|refine Gr.drew ?_|refine Gr.setCell ?_ ?_ _|refine Gr.alloc ?_ ?_ _|omega|(simp;done)|(simp;omega)))))).mono (Nat.zero_le _))).mono ?_;rintro e w32 ⟨v32,rfl,hS32,hg32⟩;(try (with_reducible replace hg32:=Gr.of_drew hg32));have hsz32:=hg32.size;(try simp at hsz32);have hy32_0:k1<w32.heap.size:=(by omega);have hy32_1:k6<w32.heap.size:=(by omega);have hy32_2:g7<w32.heap.size:=(by omega);have hy32_3:gg<w32.heap.size:=(by omega);obtain ⟨hc32,hf32⟩:=hg32.cells;have HG32:=Lib.hid hg32;clear hg32;have HS32:=Lib.hid hS32;clear hS32)
   (try dsimp only)
   refine hK.out _ _ ?_ (fun hQ12=>?_)
   ·(first|exact trivial|((try dsimp only);simp [go_sem, *]))
   clear hK K hQ11
   try simp only [pS]
   refine rd 22 (fun K hK=>?_)
   go_simp
   (refine(hE3.out _ _ _ ((HP2.out.1.gr (by(with_reducible (repeat' (first|exact Gr.refl _ _|refine Gr.drew ?_|refine Gr.setCell ?_ ?_ _|refine Gr.alloc ?_ ?_ _|refine Gr.trans ?_ (Gr.mono HG32.out ?_)|refine Gr.trans ?_ (Gr.mono HG31.out ?_)|refine Gr.trans ?_ (Gr.mono HG30.out ?_)|refine Gr.trans ?_ (Gr.mono HG29.out ?_)|refine Gr.trans ?_ (Gr.mono HG28.out ?_)|refine Gr.trans ?_ (Gr.mono HG27.out ?_)|refine Gr.trans ?_ (Gr.mono HG26.out ?_)|refine Gr.trans ?_ (Gr.mono HG25.out ?_)|refine Gr.trans ?_ (Gr.mono HG24.out ?_)|refine Gr.trans ?_ (Gr.mono HG23.out ?_)|refine Gr.trans ?_ (Gr.mono HG22.out ?_)|refine Gr.trans ?_ (Gr.mono HG21.out ?_)|refine Gr.trans ?_ (Gr.mono HG20.out ?_)|omega|(simp;done)|(simp;omega)))))).mono (Nat.zero_le _)) ((HS32.out.gr (by(with_reducible (repeat' (first|exact Gr.refl _ _|refine Gr.drew ?_|refine Gr.setCell ?_ ?_ _|refine Gr.alloc ?_ ?_ _|omega|(simp;done)|(simp;omega)))))).mono (Nat.zero_le _))).mono ?_;rintro e w33 ⟨rfl,hg33⟩;(try (with_reducible replace hg33:=Gr.of_drew hg33));have hsz33:=hg33.size;(try simp at hsz33);have hy33_0:k1<w33.heap.size:=(by omega);have hy33_1:k6<w33.heap.size:=(by omega);have hy33_2:g7<w33.heap.size:=(by omega);have hy33_3:gg<w33.heap.size:=(by omega);obtain ⟨hc33,hf33⟩:=hg33.cells;have HG33:=Lib.hid hg33;clear hg33)
   (try dsimp only)
   refine hK.out _ _ ?_ (fun hQ13=>?_)
   ·(first|exact trivial|((try dsimp only);simp [go_sem, *]))
   clear hK K hQ12
   try simp only [pS]
   refine tk 23 (some 102) (.bool true) ?_
   try simp only [pS]
   refine tk 24 (some 103) (.bool true) ?_
   try simp only [pS]
   refine tk 25 (some 104) (.pointer (some ⟨k6,1,none⟩)) ?_
   try simp only [pS]
   refine tk 26 (some 105) (.slice p2 l1.length c2) ?_
   try simp only [pS]
   refine rd 27 (fun K hK=>?_)
   go_simp
   (refine(hY.out _).mono ?_;rintro e w34 ⟨v34,rfl,hS34,hg34⟩;(try (with_reducible replace hg34:=Gr.of_drew hg34));have hsz34:=hg34.size;(try simp at hsz34);have hy34_0:k1<w34.heap.size:=(by omega);have hy34_1:k6<w34.heap.size:=(by omega);have hy34_2:g7<w34.heap.size:=(by omega);have hy34_3:gg<w34.heap.size:=(by omega);obtain ⟨hc34,hf34⟩:=hg34.cells;have HG34:=Lib.hid hg34;clear hg34;have HS34:=Lib.hid hS34;clear hS34)
   (try dsimp only)
   refine hK.out _ _ ?_ (fun hQ14=>?_)
   ·(first|exact trivial|((try dsimp only);simp [go_sem, *]))
   clear hK K hQ13
   try simp only [pS]
   refine rd 28 (fun K hK=>?_)
   go_simp
   (refine(hX.out _).mono ?_;rintro e w35 ⟨v35,rfl,hS35,hg35⟩;(try (with_reducible replace hg35:=Gr.of_drew hg35));have hsz35:=hg35.size;(try simp at hsz35);have hy35_0:k1<w35.heap.size:=(by omega);have hy35_1:k6<w35.heap.size:=(by omega);have hy35_2:g7<w35.heap.size:=(by omega);have hy35_3:gg<w35.heap.size:=(by omega);obtain ⟨hc35,hf35⟩:=hg35.cells;have HG35:=Lib.hid hg35;clear hg35;have HS35:=Lib.hid hS35;clear hS35)
   (try dsimp only)
   refine hK.out _ _ ?_ (fun hQ15=>?_)
   ·(first|exact trivial|((try dsimp only);simp [go_sem, *]))
   clear hK K hQ14
   try simp only [pS]
   refine rd 29 (fun K hK=>?_)
   go_simp
   (refine(hI3.out _).mono ?_;rintro e w36 ⟨rfl,hg36⟩;(try (with_reducible replace hg36:=Gr.of_drew hg36));have hsz36:=hg36.size;(try simp at hsz36);have hy36_0:k1<w36.heap.size:=(by omega);have hy36_1:k6<w36.heap.size:=(by omega);have hy36_2:g7<w36.heap.size:=(by omega);have hy36_3:gg<w36.heap.size:=(by omega);obtain ⟨hc36,hf36⟩:=hg36.cells;have HG36:=Lib.hid hg36;clear hg36)
   (try dsimp only)
   refine hK.out _ _ ?_ (fun hQ16=>?_)
   ·(first|exact trivial|((try dsimp only);simp [go_sem, *]))
   clear hK K hQ15
   try simp only [pS]
   refine rd 30 (fun K hK=>?_)
   go_simp
   (refine(hSc3.out _ _ ((HS35.out.gr (by(with_reducible (repeat' (first|exact Gr.refl _ _|refine Gr.drew ?_|refine Gr.setCell ?_ ?_ _|refine Gr.alloc ?_ ?_ _|refine Gr.trans ?_ (Gr.mono HG36.out ?_)|omega|(simp;done)|(simp;omega)))))).mono (Nat.zero_le _))).mono ?_;rintro e w37 ⟨v37,rfl,hS37,hg37⟩;(try (with_reducible replace hg37:=Gr.of_drew hg37));have hsz37:=hg37.size;(try simp at hsz37);have hy37_0:k1<w37.heap.size:=(by omega);have hy37_1:k6<w37.heap.size:=(by omega);have hy37_2:g7<w37.heap.size:=(by omega);have hy37_3:gg<w37.heap.size:=(by omega);obtain ⟨hc37,hf37⟩:=hg37.cells;have HG37:=Lib.hid hg37;clear hg37;have HS37:=Lib.hid hS37;clear hS37)
   (try dsimp only)
   refine hK.out _ _ ?_ (fun hQ17=>?_)
   ·(first|exact trivial|((try dsimp only);simp [go_sem, *]))
   clear hK K hQ16
   try simp only [pS]
   refine rd 31 (fun K hK=>?_)
   go_simp
   (refine(hA3.out _ _ _ ((HS34.out.gr (by(with_reducible (repeat' (first|exact Gr.refl _ _|refine Gr.drew ?_|refine Gr.setCell ?_ ?_ _|refine Gr.alloc ?_ ?_ _|refine Gr.trans ?_ (Gr.mono HG37.out ?_)|refine Gr.trans ?_ (Gr.mono HG36.out ?_)|refine Gr.trans ?_ (Gr.mono HG35.out ?_)|omega|(simp;done)|(simp;omega)))))).mono (Nat.zero_le _)) ((HS37.out.gr (by(with_reducible (repeat' (first|exact Gr.refl _ _|refine Gr.drew ?_|refine Gr.setCell ?_ ?_ _|refine Gr.alloc ?_ ?_ _|omega|(simp;done)|(simp;omega)))))).mono (Nat.zero_le _))).mono ?_;rintro e w38 ⟨v38,rfl,hS38,hg38⟩;(try (with_reducible replace hg38:=Gr.of_drew hg38));have hsz38:=hg38.size;(try simp at hsz38);have hy38_0:k1<w38.heap.size:=(by omega);have hy38_1:k6<w38.heap.size:=(by omega);have hy38_2:g7<w38.heap.size:=(by omega);have hy38_3:gg<w38.heap.size:=(by omega);obtain ⟨hc38,hf38⟩:=hg38.cells;have HG38:=Lib.hid hg38;clear hg38;have HS38:=Lib.hid hS38;clear hS38)
   (try dsimp only)
   refine hK.out _ _ ?_ (fun hQ18=>?_)
   ·(first|exact trivial|((try dsimp only);simp [go_sem, *]))
   clear hK K hQ17
   try simp only [pS]
   refine rd 32 (fun K hK=>?_)
   go_simp
   (refine(hE4.out _ _ _ ((HP2.out.2.gr (by(with_reducible (repeat' (first|exact Gr.refl _ _|refine Gr.drew ?_|refine Gr.setCell ?_ ?_ _|refine Gr.alloc ?_ ?_ _|refine Gr.trans ?_ (Gr.mono HG38.out ?_)|refine Gr.trans ?_ (Gr.mono HG37.out ?_)|refine Gr.trans ?_ (Gr.mono HG36.out ?_)|refine Gr.trans ?_ (Gr.mono HG35.out ?_)|refine Gr.trans ?_ (Gr.mono HG34.out ?_)|refine Gr.trans ?_ (Gr.mono HG33.out ?_)|refine Gr.trans ?_ (Gr.mono HG32.out ?_)|refine Gr.trans ?_ (Gr.mono HG31.out ?_)|refine Gr.trans ?_ (Gr.mono HG30.out ?_)|refine Gr.trans ?_ (Gr.mono HG29.out ?_)|refine Gr.trans ?_ (Gr.mono HG28.out ?_)|refine Gr.trans ?_ (Gr.mono HG27.out ?_)|refine Gr.trans ?_ (Gr.mono HG26.out ?_)|refine Gr.trans ?_ (Gr.mono HG25.out ?_)|refine Gr.trans ?_ (Gr.mono HG24.out ?_)|refine Gr.trans ?_ (Gr.mono HG23.out ?_)|refine Gr.trans ?_ (Gr.mono HG22.out ?_)|refine Gr.trans ?_ (Gr.mono HG21.out ?_)|refine Gr.trans ?_ (Gr.mono HG20.out ?_)|omega|(simp;done)|(simp;omega)))))).mono (Nat.zero_le _)) ((HS38.out.gr (by(with_reducible (repeat' (first|exact Gr.refl _ _|refine Gr.drew ?_|refine Gr.setCell ?_ ?_ _|refine Gr.alloc ?_ ?_ _|omega|(simp;done)|(simp;omega)))))).mono (Nat.zero_le _))).mono ?_;rintro e w39 ⟨rfl,hg39⟩;(try (with_reducible replace hg39:=Gr.of_drew hg39));have hsz39:=hg39.size;(try simp at hsz39);have hy39_0:k1<w39.heap.size:=(by omega);have hy39_1:k6<w39.heap.size:=(by omega);have hy39_2:g7<w39.heap.size:=(by omega);have hy39_3:gg<w39.heap.size:=(by omega);obtain ⟨hc39,hf39⟩:=hg39.cells;have HG39:=Lib.hid hg39;clear hg39)
   (try dsimp only)
   refine hK.out _ _ ?_ (fun hQ19=>?_)
   ·(first|exact trivial|((try dsimp only);simp [go_sem, *]))
   clear hK K hQ18
   try simp only [pS]
   refine tk 33 (some 112) (.bool true) ?_
   try simp only [pS]
   refine tk 34 (some 113) (.bool true) ?_
   try simp only [pS]
   refine tk 35 (some 114) (.pointer (some ⟨g7,25,none⟩)) ?_
   try simp only [pS]
   refine tk 36 (some 115) (.slice (some ⟨gg,0,none⟩) 1 gcap) ?_
   try simp only [pS]
   refine tk 37 (some 116) (.pointer (some ⟨gg,0,none⟩)) ?_
   try simp only [pS]
   refine tk 38 (some 117) (.pointer (some ⟨gg,1,none⟩)) ?_
   try simp only [pS]
   refine tk 39 (some 118) (.bool true) ?_
   try simp only [pS]
   refine tk 40 (some 119) (.bool true) ?_
   try simp only [pS]
   refine tk 41 (some 120) (.bool true) ?_
   try simp only [pS]
   refine tk 42 (some 121) (.pointer (some ⟨g7,25,none⟩)) ?_
   try simp only [pS]
   refine tk 43 (some 122) (.slice (some ⟨gg,0,none⟩) 1 gcap) ?_
   try simp only [pS]
   refine tk 44 (some 123) (.pointer (some ⟨gg,0,none⟩)) ?_
   try simp only [pS]
   refine tk 45 (some 124) (.pointer (some ⟨gg,0,none⟩)) ?_
   try simp only [pS]
   refine tk 46 (some 125) (.int .i64 0) ?_
   try simp only [pS]
   refine tk 47 (some 126) (.bool true) ?_
   try simp only [pS]
   refine tk 48 (some 127) (.bool true) ?_
   try simp only [pS]
   refine tk 49 (some 128) (.bool true) ?_
   try simp only [pS]
   refine tk 50 (some 129) (.pointer (some ⟨g7,24,none⟩)) ?_
   try simp only [pS]
   refine tk 51 (some 130) (.slice pf ls.length cf) ?_
   try simp only [pS]
   refine tk 52 (some 131) (vs) ?_
   try simp only [pS]
   refine rd 53 (fun K hK=>?_)
   go_simp
   (refine(hE5.out _ (.slice pf ls.length cf) vs (HPV.out.2 ▸ ((HF2.out.gr (by(with_reducible (repeat' (first|exact Gr.refl _ _|refine Gr.drew ?_|refine Gr.setCell ?_ ?_ _|refine Gr.alloc ?_ ?_ _|refine Gr.trans ?_ (Gr.mono HG39.out ?_)|refine Gr.trans ?_ (Gr.mono HG38.out ?_)|refine Gr.trans ?_ (Gr.mono HG37.out ?_)|refine Gr.trans ?_ (Gr.mono HG36.out ?_)|refine Gr.trans ?_ (Gr.mono HG35.out ?_)|refine Gr.trans ?_ (Gr.mono HG34.out ?_)|refine Gr.trans ?_ (Gr.mono HG33.out ?_)|refine Gr.trans ?_ (Gr.mono HG32.out ?_)|refine Gr.trans ?_ (Gr.mono HG31.out ?_)|refine Gr.trans ?_ (Gr.mono HG30.out ?_)|refine Gr.trans ?_ (Gr.mono HG29.out ?_)|refine Gr.trans ?_ (Gr.mono HG28.out ?_)|refine Gr.trans ?_ (Gr.mono HG27.out ?_)|refine Gr.trans ?_ (Gr.mono HG26.out ?_)|refine Gr.trans ?_ (Gr.mono HG25.out ?_)|refine Gr.trans ?_ (Gr.mono HG24.out ?_)|refine Gr.trans ?_ (Gr.mono HG23.out ?_)|refine Gr.trans ?_ (Gr.mono HG22.out ?_)|refine Gr.trans ?_ (Gr.mono HG21.out ?_)|refine Gr.trans ?_ (Gr.mono HG20.out ?_)|omega|(simp;done)|(simp;omega)))))).mono (Nat.zero_le _))) ((HPs.out.gr (by(with_reducible (repeat' (first|exact Gr.refl _ _|refine Gr.drew ?_|refine Gr.setCell ?_ ?_ _|refine Gr.alloc ?_ ?_ _|refine Gr.trans ?_ (Gr.mono HG39.out ?_)|refine Gr.trans ?_ (Gr.mono HG38.out ?_)|refine Gr.trans ?_ (Gr.mono HG37.out ?_)|refine Gr.trans ?_ (Gr.mono HG36.out ?_)|refine Gr.trans ?_ (Gr.mono HG35.out ?_)|refine Gr.trans ?_ (Gr.mono HG34.out ?_)|refine Gr.trans ?_ (Gr.mono HG33.out ?_)|refine Gr.trans ?_ (Gr.mono HG32.out ?_)|refine Gr.trans ?_ (Gr.mono HG31.out ?_)|refine Gr.trans ?_ (Gr.mono HG30.out ?_)|refine Gr.trans ?_ (Gr.mono HG29.out ?_)|refine Gr.trans ?_ (Gr.mono HG28.out ?_)|refine Gr.trans ?_ (Gr.mono HG27.out ?_)|refine Gr.trans ?_ (Gr.mono HG26.out ?_)|refine Gr.trans ?_ (Gr.mono HG25.out ?_)|refine Gr.trans ?_ (Gr.mono HG24.out ?_)|refine Gr.trans ?_ (Gr.mono HG23.out ?_)|refine Gr.trans ?_ (Gr.mono HG22.out ?_)|refine Gr.trans ?_ (Gr.mono HG21.out ?_)|omega|(simp;done)|(simp;omega)))))).mono (Nat.zero_le _))).mono ?_;rintro e w40 ⟨rfl,hg40⟩;(try (with_reducible replace hg40:=Gr.of_drew hg40));have hsz40:=hg40.size;(try simp at hsz40);have hy40_0:k1<w40.heap.size:=(by omega);have hy40_1:k6<w40.heap.size:=(by omega);have hy40_2:g7<w40.heap.size:=(by omega);have hy40_3:gg<w40.heap.size:=(by omega);obtain ⟨hc40,hf40⟩:=hg40.cells;have HG40:=Lib.hid hg40;clear hg40)
   (try dsimp only)
   refine hK.out _ _ ?_ (fun hQ20=>?_)
   ·(first|exact trivial|((try dsimp only);simp [go_sem, *]))
   clear hK K hQ19
   try simp only [pS]
   refine tk 54 (some 133) (.bool true) ?_
   try simp only [pS]
   refine tk 55 (some 0) (.bool true) ?_
   try simp only [pS]
   refine wpAnyH_done (by kernel_rfl) ?_ _
   go_wp2
   go_ret
   exact⟨rfl,by(with_reducible (repeat' (first|exact Gr.refl _ _|refine Gr.drew ?_|refine Gr.setCell ?_ ?_ _|refine Gr.alloc ?_ ?_ _|refine Gr.trans ?_ (Gr.mono HG40.out ?_)|refine Gr.trans ?_ (Gr.mono HG39.out ?_)|refine Gr.trans ?_ (Gr.mono HG38.out ?_)|refine Gr.trans ?_ (Gr.mono HG37.out ?_)|refine Gr.trans ?_ (Gr.mono HG36.out ?_)|refine Gr.trans ?_ (Gr.mono HG35.out ?_)|refine Gr.trans ?_ (Gr.mono HG34.out ?_)|refine Gr.trans ?_ (Gr.mono HG33.out ?_)|refine Gr.trans ?_ (Gr.mono HG32.out ?_)|refine Gr.trans ?_ (Gr.mono HG31.out ?_)|refine Gr.trans ?_ (Gr.mono HG30.out ?_)|refine Gr.trans ?_ (Gr.mono HG29.out ?_)|refine Gr.trans ?_ (Gr.mono HG28.out ?_)|refine Gr.trans ?_ (Gr.mono HG27.out ?_)|refine Gr.trans ?_ (Gr.mono HG26.out ?_)|refine Gr.trans ?_ (Gr.mono HG25.out ?_)|refine Gr.trans ?_ (Gr.mono HG24.out ?_)|refine Gr.trans ?_ (Gr.mono HG23.out ?_)|refine Gr.trans ?_ (Gr.mono HG22.out ?_)|refine Gr.trans ?_ (Gr.mono HG21.out ?_)|refine Gr.trans ?_ (Gr.mono HG20.out ?_)|refine Gr.trans ?_ (Gr.mono HW2.out ?_)|omega|(simp;done)|(simp;omega))))⟩
end Go.Proofs.YtmelogdhllhjiaaGreat
