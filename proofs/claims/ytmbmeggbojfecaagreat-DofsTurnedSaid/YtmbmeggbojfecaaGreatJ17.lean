/-
  Part 17 of the proof: Beyond.
-/
import Derived.Test.YtmbmeggbojfecaaGreatJ16
set_option linter.unusedSimpArgs false
set_option linter.unusedVariables false
namespace Go.Proofs.YtmbmeggbojfecaaGreat
open Go.RowKit Gus
structure BeyS (w wr wx:World) (gp gq:Nat) (p q:Pt):Prop where
 p:VB wx gp (pC p)
 q:VB wx gq (pC q)
 gr:Gr wr.heap.size wr wx
theorem Shx.new (w:World) (cs:Array Value) (t:TypeId):Shx (w.alloc (.cells cs t)) w.heap.size t:=⟨cs.size,cs,(MapKept.heap_alloc w _).1,rfl⟩
theorem Shx.gr {w w':World} {g B:Nat} {t:TypeId} (h:Shx w g t) (hg:Gr B w w') (hB:g<B):Shx w' g t:=by obtain ⟨N,h⟩:=h;exact⟨N,h.gr hg hB⟩
theorem SR.three {w:World} {g:Nat} {t:TypeId} {d e f:Pt} (h:VB w g (c3C d e f)) (hs:Shx w g t):SR pC 10 t w 0 (.slice (some ⟨g,0,none⟩) 3 3) [d,e,f]:=
 .inr ⟨g,3,rfl,Nat.zero_le _,Nat.le_refl _,by simp [maxLen],hs,RC.of_flat pC_len fun i u hu=>h.c i u hu⟩
theorem VB.fars {g b:Nat} {cs:List Value} (hne:b≠g):∀(vs:List Value) (o:Nat) {w:World},VB w g cs→VB (w.setCells b o vs) g cs
 | [],_,_,h=>h
 | v :: r,o,_,h=>VB.fars hne r (o+1) (h.far hne v)
set_option maxRecDepth 20000 in
set_option maxHeartbeats 8000000 in
theorem ms_beyond (a b c d e f:Pt) (w:World) (ha:hp a≤1000000000) (hb:hp b≤1000000000) (h:∀r∈ [d,e,f],hp r≤1000000000∧turn a b r≤0):
  Calls Tryz.prog 71 #[c3V a b c,c3V d e f] w (Ret w (.bool true)):=by
 have HA:=Lib.hid ha
 have HB:=Lib.hid hb
 have H:=Lib.hid h
 have HE:=Lib.hid (show([d,e,f].any fun r=>decide (0<turn a b r))=false from by
  rw [List.any_eq_false]
  intro x hx
  have:=(h x hx).2
  simp only [decide_eq_true_eq]
  omega)
 clear h ha hb
 go_enter Tryz.func71,Tryz.ntmps71
 go_wp2
 have HV1:=Lib.hid (show VB ((w.alloc (.cells #[.int .u64 (lowN (sz a.x.num)),.string (bigS (sz a.x.num)),.bool (ng a.x.num),.int .u64 (lowN (fm a.x)),.string (bigS (fm a.x)),.int .u64 (lowN (sz a.y.num)),.string (bigS (sz a.y.num)),.bool (ng a.y.num),.int .u64 (lowN (fm a.y)),.string (bigS (fm a.y)),.int .u64 (lowN (sz b.x.num)),.string (bigS (sz b.x.num)),.bool (ng b.x.num),.int .u64 (lowN (fm b.x)),.string (bigS (fm b.x)),.int .u64 (lowN (sz b.y.num)),.string (bigS (sz b.y.num)),.bool (ng b.y.num),.int .u64 (lowN (fm b.y)),.string (bigS (fm b.y)),.int .u64 (lowN (sz c.x.num)),.string (bigS (sz c.x.num)),.bool (ng c.x.num),.int .u64 (lowN (fm c.x)),.string (bigS (fm c.x)),.int .u64 (lowN (sz c.y.num)),.string (bigS (sz c.y.num)),.bool (ng c.y.num),.int .u64 (lowN (fm c.y)),.string (bigS (fm c.y))] 128)).alloc (.cells #[.int .u64 (lowN (sz d.x.num)),.string (bigS (sz d.x.num)),.bool (ng d.x.num),.int .u64 (lowN (fm d.x)),.string (bigS (fm d.x)),.int .u64 (lowN (sz d.y.num)),.string (bigS (sz d.y.num)),.bool (ng d.y.num),.int .u64 (lowN (fm d.y)),.string (bigS (fm d.y)),.int .u64 (lowN (sz e.x.num)),.string (bigS (sz e.x.num)),.bool (ng e.x.num),.int .u64 (lowN (fm e.x)),.string (bigS (fm e.x)),.int .u64 (lowN (sz e.y.num)),.string (bigS (sz e.y.num)),.bool (ng e.y.num),.int .u64 (lowN (fm e.y)),.string (bigS (fm e.y)),.int .u64 (lowN (sz f.x.num)),.string (bigS (sz f.x.num)),.bool (ng f.x.num),.int .u64 (lowN (fm f.x)),.string (bigS (fm f.x)),.int .u64 (lowN (sz f.y.num)),.string (bigS (sz f.y.num)),.bool (ng f.y.num),.int .u64 (lowN (fm f.y)),.string (bigS (fm f.y))] 128)) w.heap.size (c3C a b c)from by(with_reducible (repeat' (first|(refine VB.new' ?_;exact(by first|omega|(simp;done)|(simp;omega)))|apply VB.put2|apply VB.put3|apply VB.put5|refine VB.drew ?_|refine VB.far ?_ ?_ _|refine VB.alloc ?_ _|omega|(simp;done)|(simp;omega)))))
 have HV2:=Lib.hid (show VB ((w.alloc (.cells #[.int .u64 (lowN (sz a.x.num)),.string (bigS (sz a.x.num)),.bool (ng a.x.num),.int .u64 (lowN (fm a.x)),.string (bigS (fm a.x)),.int .u64 (lowN (sz a.y.num)),.string (bigS (sz a.y.num)),.bool (ng a.y.num),.int .u64 (lowN (fm a.y)),.string (bigS (fm a.y)),.int .u64 (lowN (sz b.x.num)),.string (bigS (sz b.x.num)),.bool (ng b.x.num),.int .u64 (lowN (fm b.x)),.string (bigS (fm b.x)),.int .u64 (lowN (sz b.y.num)),.string (bigS (sz b.y.num)),.bool (ng b.y.num),.int .u64 (lowN (fm b.y)),.string (bigS (fm b.y)),.int .u64 (lowN (sz c.x.num)),.string (bigS (sz c.x.num)),.bool (ng c.x.num),.int .u64 (lowN (fm c.x)),.string (bigS (fm c.x)),.int .u64 (lowN (sz c.y.num)),.string (bigS (sz c.y.num)),.bool (ng c.y.num),.int .u64 (lowN (fm c.y)),.string (bigS (fm c.y))] 128)).alloc (.cells #[.int .u64 (lowN (sz d.x.num)),.string (bigS (sz d.x.num)),.bool (ng d.x.num),.int .u64 (lowN (fm d.x)),.string (bigS (fm d.x)),.int .u64 (lowN (sz d.y.num)),.string (bigS (sz d.y.num)),.bool (ng d.y.num),.int .u64 (lowN (fm d.y)),.string (bigS (fm d.y)),.int .u64 (lowN (sz e.x.num)),.string (bigS (sz e.x.num)),.bool (ng e.x.num),.int .u64 (lowN (fm e.x)),.string (bigS (fm e.x)),.int .u64 (lowN (sz e.y.num)),.string (bigS (sz e.y.num)),.bool (ng e.y.num),.int .u64 (lowN (fm e.y)),.string (bigS (fm e.y)),.int .u64 (lowN (sz f.x.num)),.string (bigS (sz f.x.num)),.bool (ng f.x.num),.int .u64 (lowN (fm f.x)),.string (bigS (fm f.x)),.int .u64 (lowN (sz f.y.num)),.string (bigS (sz f.y.num)),.bool (ng f.y.num),.int .u64 (lowN (fm f.y)),.string (bigS (fm f.y))] 128)) (w.heap.size+1) (c3C d e f)from by(with_reducible (repeat' (first|(refine VB.new' ?_;exact(by first|omega|(simp;done)|(simp;omega)))|apply VB.put2|apply VB.put3|apply VB.put5|refine VB.drew ?_|refine VB.far ?_ ?_ _|refine VB.alloc ?_ _|omega|(simp;done)|(simp;omega)))))
 have HX:=Lib.hid (show Shx ((w.alloc (.cells #[.int .u64 (lowN (sz a.x.num)),.string (bigS (sz a.x.num)),.bool (ng a.x.num),.int .u64 (lowN (fm a.x)),.string (bigS (fm a.x)),.int .u64 (lowN (sz a.y.num)),.string (bigS (sz a.y.num)),.bool (ng a.y.num),.int .u64 (lowN (fm a.y)),.string (bigS (fm a.y)),.int .u64 (lowN (sz b.x.num)),.string (bigS (sz b.x.num)),.bool (ng b.x.num),.int .u64 (lowN (fm b.x)),.string (bigS (fm b.x)),.int .u64 (lowN (sz b.y.num)),.string (bigS (sz b.y.num)),.bool (ng b.y.num),.int .u64 (lowN (fm b.y)),.string (bigS (fm b.y)),.int .u64 (lowN (sz c.x.num)),.string (bigS (sz c.x.num)),.bool (ng c.x.num),.int .u64 (lowN (fm c.x)),.string (bigS (fm c.x)),.int .u64 (lowN (sz c.y.num)),.string (bigS (sz c.y.num)),.bool (ng c.y.num),.int .u64 (lowN (fm c.y)),.string (bigS (fm c.y))] 128)).alloc (.cells #[.int .u64 (lowN (sz d.x.num)),.string (bigS (sz d.x.num)),.bool (ng d.x.num),.int .u64 (lowN (fm d.x)),.string (bigS (fm d.x)),.int .u64 (lowN (sz d.y.num)),.string (bigS (sz d.y.num)),.bool (ng d.y.num),.int .u64 (lowN (fm d.y)),.string (bigS (fm d.y)),.int .u64 (lowN (sz e.x.num)),.string (bigS (sz e.x.num)),.bool (ng e.x.num),.int .u64 (lowN (fm e.x)),.string (bigS (fm e.x)),.int .u64 (lowN (sz e.y.num)),.string (bigS (sz e.y.num)),.bool (ng e.y.num),.int .u64 (lowN (fm e.y)),.string (bigS (fm e.y)),.int .u64 (lowN (sz f.x.num)),.string (bigS (sz f.x.num)),.bool (ng f.x.num),.int .u64 (lowN (fm f.x)),.string (bigS (fm f.x)),.int .u64 (lowN (sz f.y.num)),.string (bigS (sz f.y.num)),.bool (ng f.y.num),.int .u64 (lowN (fm f.y)),.string (bigS (fm f.y))] 128)) (w.heap.size+1) 128 from by
  have h:=Shx.new (w.alloc (.cells #[.int .u64 (lowN (sz a.x.num)),.string (bigS (sz a.x.num)),.bool (ng a.x.num),.int .u64 (lowN (fm a.x)),.string (bigS (fm a.x)),.int .u64 (lowN (sz a.y.num)),.string (bigS (sz a.y.num)),.bool (ng a.y.num),.int .u64 (lowN (fm a.y)),.string (bigS (fm a.y)),.int .u64 (lowN (sz b.x.num)),.string (bigS (sz b.x.num)),.bool (ng b.x.num),.int .u64 (lowN (fm b.x)),.string (bigS (fm b.x)),.int .u64 (lowN (sz b.y.num)),.string (bigS (sz b.y.num)),.bool (ng b.y.num),.int .u64 (lowN (fm b.y)),.string (bigS (fm b.y)),.int .u64 (lowN (sz c.x.num)),.string (bigS (sz c.x.num)),.bool (ng c.x.num),.int .u64 (lowN (fm c.x)),.string (bigS (fm c.x)),.int .u64 (lowN (sz c.y.num)),.string (bigS (sz c.y.num)),.bool (ng c.y.num),.int .u64 (lowN (fm c.y)),.string (bigS (fm c.y))] 128)) #[.int .u64 (lowN (sz d.x.num)),.string (bigS (sz d.x.num)),.bool (ng d.x.num),.int .u64 (lowN (fm d.x)),.string (bigS (fm d.x)),.int .u64 (lowN (sz d.y.num)),.string (bigS (sz d.y.num)),.bool (ng d.y.num),.int .u64 (lowN (fm d.y)),.string (bigS (fm d.y)),.int .u64 (lowN (sz e.x.num)),.string (bigS (sz e.x.num)),.bool (ng e.x.num),.int .u64 (lowN (fm e.x)),.string (bigS (fm e.x)),.int .u64 (lowN (sz e.y.num)),.string (bigS (sz e.y.num)),.bool (ng e.y.num),.int .u64 (lowN (fm e.y)),.string (bigS (fm e.y)),.int .u64 (lowN (sz f.x.num)),.string (bigS (sz f.x.num)),.bool (ng f.x.num),.int .u64 (lowN (fm f.x)),.string (bigS (fm f.x)),.int .u64 (lowN (sz f.y.num)),.string (bigS (sz f.y.num)),.bool (ng f.y.num),.int .u64 (lowN (fm f.y)),.string (bigS (fm f.y))] 128
  simpa using h)
 have HG0:=Lib.hid (show Gr w.heap.size w ((w.alloc (.cells #[.int .u64 (lowN (sz a.x.num)),.string (bigS (sz a.x.num)),.bool (ng a.x.num),.int .u64 (lowN (fm a.x)),.string (bigS (fm a.x)),.int .u64 (lowN (sz a.y.num)),.string (bigS (sz a.y.num)),.bool (ng a.y.num),.int .u64 (lowN (fm a.y)),.string (bigS (fm a.y)),.int .u64 (lowN (sz b.x.num)),.string (bigS (sz b.x.num)),.bool (ng b.x.num),.int .u64 (lowN (fm b.x)),.string (bigS (fm b.x)),.int .u64 (lowN (sz b.y.num)),.string (bigS (sz b.y.num)),.bool (ng b.y.num),.int .u64 (lowN (fm b.y)),.string (bigS (fm b.y)),.int .u64 (lowN (sz c.x.num)),.string (bigS (sz c.x.num)),.bool (ng c.x.num),.int .u64 (lowN (fm c.x)),.string (bigS (fm c.x)),.int .u64 (lowN (sz c.y.num)),.string (bigS (sz c.y.num)),.bool (ng c.y.num),.int .u64 (lowN (fm c.y)),.string (bigS (fm c.y))] 128)).alloc (.cells #[.int .u64 (lowN (sz d.x.num)),.string (bigS (sz d.x.num)),.bool (ng d.x.num),.int .u64 (lowN (fm d.x)),.string (bigS (fm d.x)),.int .u64 (lowN (sz d.y.num)),.string (bigS (sz d.y.num)),.bool (ng d.y.num),.int .u64 (lowN (fm d.y)),.string (bigS (fm d.y)),.int .u64 (lowN (sz e.x.num)),.string (bigS (sz e.x.num)),.bool (ng e.x.num),.int .u64 (lowN (fm e.x)),.string (bigS (fm e.x)),.int .u64 (lowN (sz e.y.num)),.string (bigS (sz e.y.num)),.bool (ng e.y.num),.int .u64 (lowN (fm e.y)),.string (bigS (fm e.y)),.int .u64 (lowN (sz f.x.num)),.string (bigS (sz f.x.num)),.bool (ng f.x.num),.int .u64 (lowN (fm f.x)),.string (bigS (fm f.x)),.int .u64 (lowN (sz f.y.num)),.string (bigS (sz f.y.num)),.bool (ng f.y.num),.int .u64 (lowN (fm f.y)),.string (bigS (fm f.y))] 128))from by(with_reducible (repeat' (first|exact Gr.refl _ _|refine Gr.drew ?_|refine Gr.setCell ?_ ?_ _|refine Gr.alloc ?_ ?_ _|omega|(simp;done)|(simp;omega)))))
 generalize (w.alloc (.cells #[.int .u64 (lowN (sz a.x.num)),.string (bigS (sz a.x.num)),.bool (ng a.x.num),.int .u64 (lowN (fm a.x)),.string (bigS (fm a.x)),.int .u64 (lowN (sz a.y.num)),.string (bigS (sz a.y.num)),.bool (ng a.y.num),.int .u64 (lowN (fm a.y)),.string (bigS (fm a.y)),.int .u64 (lowN (sz b.x.num)),.string (bigS (sz b.x.num)),.bool (ng b.x.num),.int .u64 (lowN (fm b.x)),.string (bigS (fm b.x)),.int .u64 (lowN (sz b.y.num)),.string (bigS (sz b.y.num)),.bool (ng b.y.num),.int .u64 (lowN (fm b.y)),.string (bigS (fm b.y)),.int .u64 (lowN (sz c.x.num)),.string (bigS (sz c.x.num)),.bool (ng c.x.num),.int .u64 (lowN (fm c.x)),.string (bigS (fm c.x)),.int .u64 (lowN (sz c.y.num)),.string (bigS (sz c.y.num)),.bool (ng c.y.num),.int .u64 (lowN (fm c.y)),.string (bigS (fm c.y))] 128)).alloc (.cells #[.int .u64 (lowN (sz d.x.num)),.string (bigS (sz d.x.num)),.bool (ng d.x.num),.int .u64 (lowN (fm d.x)),.string (bigS (fm d.x)),.int .u64 (lowN (sz d.y.num)),.string (bigS (sz d.y.num)),.bool (ng d.y.num),.int .u64 (lowN (fm d.y)),.string (bigS (fm d.y)),.int .u64 (lowN (sz e.x.num)),.string (bigS (sz e.x.num)),.bool (ng e.x.num),.int .u64 (lowN (fm e.x)),.string (bigS (fm e.x)),.int .u64 (lowN (sz e.y.num)),.string (bigS (sz e.y.num)),.bool (ng e.y.num),.int .u64 (lowN (fm e.y)),.string (bigS (fm e.y)),.int .u64 (lowN (sz f.x.num)),.string (bigS (sz f.x.num)),.bool (ng f.x.num),.int .u64 (lowN (fm f.x)),.string (bigS (fm f.x)),.int .u64 (lowN (sz f.y.num)),.string (bigS (sz f.y.num)),.bool (ng f.y.num),.int .u64 (lowN (fm f.y)),.string (bigS (fm f.y))] 128)=w0 at *
 go_loopw [8] (fun s wr=>s= .int .i64 0∧Hid (VB wr w.heap.size (c3C a b c))∧Hid (VB wr (w.heap.size+1) (c3C d e f))∧Hid (Shx wr (w.heap.size+1) 128)∧Hid (Gr w.heap.size w wr)) (fun _ _=>0)
 case atStart=>exact⟨rfl,HV1,HV2,HX,HG0⟩
 case round=>
  clear HV1 HV2 HX HG0
  obtain ⟨rfl,HV1,HV2,HX,HG0⟩:=hrel
  have hw1:IntKind.i64.wrap 1=1:=by decide
  have h0:=HV1.out.lt
  have h1:=HV2.out.lt
  have u0:=HV1.out.c 0 _ rfl
  have u1:=HV1.out.c 1 _ rfl
  have u2:=HV1.out.c 2 _ rfl
  have u3:=HV1.out.c 3 _ rfl
  have u4:=HV1.out.c 4 _ rfl
  have u5:=HV1.out.c 5 _ rfl
  have u6:=HV1.out.c 6 _ rfl
  have u7:=HV1.out.c 7 _ rfl
  have u8:=HV1.out.c 8 _ rfl
  have u9:=HV1.out.c 9 _ rfl
  have u10:=HV1.out.c 10 _ rfl
  have u11:=HV1.out.c 11 _ rfl
  have u12:=HV1.out.c 12 _ rfl
  have u13:=HV1.out.c 13 _ rfl
  have u14:=HV1.out.c 14 _ rfl
  have u15:=HV1.out.c 15 _ rfl
  have u16:=HV1.out.c 16 _ rfl
  have u17:=HV1.out.c 17 _ rfl
  have u18:=HV1.out.c 18 _ rfl
  have u19:=HV1.out.c 19 _ rfl
  go_upto_region 4 with fail
  go_cut [6,7] (fun p q wx=> ∃gp gq,p= .pointer (some ⟨gp,0,none⟩)∧q= .pointer (some ⟨gq,0,none⟩)∧BeyS w wr wx gp gq a b)
  case first=>
   refine wp_region_held_drew (S:=(fun w'=>w'.cell? ⟨w.heap.size,0,none⟩=some (.int .u64 (lowN (sz a.x.num)))∧w'.cell? ⟨w.heap.size,1,none⟩=some (.string (bigS (sz a.x.num)))∧w'.cell? ⟨w.heap.size,2,none⟩=some (.bool (ng a.x.num))∧w'.cell? ⟨w.heap.size,3,none⟩=some (.int .u64 (lowN (fm a.x)))∧w'.cell? ⟨w.heap.size,4,none⟩=some (.string (bigS (fm a.x)))∧w'.cell? ⟨w.heap.size,5,none⟩=some (.int .u64 (lowN (sz a.y.num)))∧w'.cell? ⟨w.heap.size,6,none⟩=some (.string (bigS (sz a.y.num)))∧w'.cell? ⟨w.heap.size,7,none⟩=some (.bool (ng a.y.num))∧w'.cell? ⟨w.heap.size,8,none⟩=some (.int .u64 (lowN (fm a.y)))∧w'.cell? ⟨w.heap.size,9,none⟩=some (.string (bigS (fm a.y)))∧w'.cell? ⟨w.heap.size,10,none⟩=some (.int .u64 (lowN (sz b.x.num)))∧w'.cell? ⟨w.heap.size,11,none⟩=some (.string (bigS (sz b.x.num)))∧w'.cell? ⟨w.heap.size,12,none⟩=some (.bool (ng b.x.num))∧w'.cell? ⟨w.heap.size,13,none⟩=some (.int .u64 (lowN (fm b.x)))∧w'.cell? ⟨w.heap.size,14,none⟩=some (.string (bigS (fm b.x)))∧w'.cell? ⟨w.heap.size,15,none⟩=some (.int .u64 (lowN (sz b.y.num)))∧w'.cell? ⟨w.heap.size,16,none⟩=some (.string (bigS (sz b.y.num)))∧w'.cell? ⟨w.heap.size,17,none⟩=some (.bool (ng b.y.num))∧w'.cell? ⟨w.heap.size,18,none⟩=some (.int .u64 (lowN (fm b.y)))∧w'.cell? ⟨w.heap.size,19,none⟩=some (.string (bigS (fm b.y))))) (by kernel_rfl) ?_ (fun hHeld=>?_)
   ·simp [go_sem, *]
   refine tk 0 (some 11) (.int .i64 0) ?_
   try simp only [pS]
   refine tk 1 (some 12) (.pointer (some ⟨w.heap.size,0,none⟩)) ?_
   try simp only [pS]
   refine tk 2 (some 13) (.agg #[.int .u64 (lowN (sz a.x.num)),.string (bigS (sz a.x.num)),.bool (ng a.x.num),.int .u64 (lowN (fm a.x)),.string (bigS (fm a.x)),.int .u64 (lowN (sz a.y.num)),.string (bigS (sz a.y.num)),.bool (ng a.y.num),.int .u64 (lowN (fm a.y)),.string (bigS (fm a.y))]) ?_
   try simp only [pS]
   refine tk 3 (some 14) (.int .i64 0) ?_
   try simp only [pS]
   refine tk 4 (some 15) (.int .i64 1) ?_
   try simp only [pS]
   refine tk 5 (some 16) (.int .i64 1) ?_
   try simp only [pS]
   refine tk 6 (some 17) (.pointer (some ⟨w.heap.size,10,none⟩)) ?_
   try simp only [pS]
   refine tk 7 (some 18) (.agg #[.int .u64 (lowN (sz b.x.num)),.string (bigS (sz b.x.num)),.bool (ng b.x.num),.int .u64 (lowN (fm b.x)),.string (bigS (fm b.x)),.int .u64 (lowN (sz b.y.num)),.string (bigS (sz b.y.num)),.bool (ng b.y.num),.int .u64 (lowN (fm b.y)),.string (bigS (fm b.y))]) ?_
   try simp only [pS]
   refine wpAnyH_ready (rs:= [8,9]) (by kernel_rfl) (by simp) ?_
   refine AllReadyH.cons rfl (fun K hK=>?_) (AllReadyH.cons rfl (fun K hK=>?_) AllReadyH.nil)
   ·go_simp
    (try dsimp only)
    refine hK.out _ _ ?_ (fun hQ1=>?_)
    ·(first|exact trivial|((try dsimp only);simp [go_sem, *]))
    clear hK K hHeld
    try simp only [pS]
    refine rd 9 (fun K hK=>?_)
    go_simp
    (try dsimp only)
    refine hK.out _ _ ?_ (fun hQ2=>?_)
    ·(first|exact trivial|((try dsimp only);simp [go_sem, *]))
    clear hK K hQ1
    try simp only [pS]
    refine wpAnyH_ready (rs:= [10]) (by kernel_rfl) (by simp) ?_
    refine AllReadyH.cons (o:=⟨none,_,_,_,_,_⟩) rfl (fun K hK=>?_) AllReadyH.nil
    rw [if_pos (by rfl)]
    refine wp_store_mid 57 _ _ rfl (wr.heap.size) 0 (List.toArray [.int .u64 (lowN (sz a.x.num)),.string (bigS (sz a.x.num)),.bool (ng a.x.num),.int .u64 (lowN (fm a.x)),.string (bigS (fm a.x)),.int .u64 (lowN (sz a.y.num)),.string (bigS (sz a.y.num)),.bool (ng a.y.num),.int .u64 (lowN (fm a.y)),.string (bigS (fm a.y))]) rfl rfl (VB.there (cs:= [.int .u64 0,.string ⟨#[]⟩,.bool false,.int .u64 0,.string ⟨#[]⟩,.int .u64 0,.string ⟨#[]⟩,.bool false,.int .u64 0,.string ⟨#[]⟩]) ?_) info_Point (by first|rfl|simp [Value.oneCell']) ?_
    ·(with_reducible (repeat' (first|(refine VB.new' ?_;exact(by first|omega|(simp;done)|(simp;omega)))|apply VB.put2|apply VB.put3|apply VB.put5|refine VB.drew ?_|refine VB.far ?_ ?_ _|refine VB.alloc ?_ _|omega|(simp;done)|(simp;omega))))
    simp only [pS]
    refine hK.out _ _ ?_ (fun hQ3=>?_)
    ·have hh:=hQ2;(try dsimp only at hh ⊢);simp only [cell_sets_ne (show w.heap.size≠wr.heap.size by omega)];exact hh
    clear hK K hQ2
    have HPP:=Lib.hid (show VB (((wr.alloc (.cells #[.int .u64 0,.string ⟨#[]⟩,.bool false,.int .u64 0,.string ⟨#[]⟩,.int .u64 0,.string ⟨#[]⟩,.bool false,.int .u64 0,.string ⟨#[]⟩] 57)).alloc (.cells #[.int .u64 0,.string ⟨#[]⟩,.bool false,.int .u64 0,.string ⟨#[]⟩,.int .u64 0,.string ⟨#[]⟩,.bool false,.int .u64 0,.string ⟨#[]⟩] 57)).drew.setCells (wr.heap.size) 0 [.int .u64 (lowN (sz a.x.num)),.string (bigS (sz a.x.num)),.bool (ng a.x.num),.int .u64 (lowN (fm a.x)),.string (bigS (fm a.x)),.int .u64 (lowN (sz a.y.num)),.string (bigS (sz a.y.num)),.bool (ng a.y.num),.int .u64 (lowN (fm a.y)),.string (bigS (fm a.y))]) (wr.heap.size) (pC a)from VB.set (cs:= [.int .u64 0,.string ⟨#[]⟩,.bool false,.int .u64 0,.string ⟨#[]⟩,.int .u64 0,.string ⟨#[]⟩,.bool false,.int .u64 0,.string ⟨#[]⟩]) (VB.drew (VB.alloc (VB.new' (w:=wr) rfl) _)) (pC a) rfl)
    have HQQ:=Lib.hid (show VB (((wr.alloc (.cells #[.int .u64 0,.string ⟨#[]⟩,.bool false,.int .u64 0,.string ⟨#[]⟩,.int .u64 0,.string ⟨#[]⟩,.bool false,.int .u64 0,.string ⟨#[]⟩] 57)).alloc (.cells #[.int .u64 0,.string ⟨#[]⟩,.bool false,.int .u64 0,.string ⟨#[]⟩,.int .u64 0,.string ⟨#[]⟩,.bool false,.int .u64 0,.string ⟨#[]⟩] 57)).drew.setCells (wr.heap.size) 0 [.int .u64 (lowN (sz a.x.num)),.string (bigS (sz a.x.num)),.bool (ng a.x.num),.int .u64 (lowN (fm a.x)),.string (bigS (fm a.x)),.int .u64 (lowN (sz a.y.num)),.string (bigS (sz a.y.num)),.bool (ng a.y.num),.int .u64 (lowN (fm a.y)),.string (bigS (fm a.y))]) (wr.heap.size+1) [.int .u64 0,.string ⟨#[]⟩,.bool false,.int .u64 0,.string ⟨#[]⟩,.int .u64 0,.string ⟨#[]⟩,.bool false,.int .u64 0,.string ⟨#[]⟩]from VB.fars (by omega) _ _ (VB.drew (VB.new' (by simp))))
    have HGG:=Lib.hid (show Gr wr.heap.size wr (((wr.alloc (.cells #[.int .u64 0,.string ⟨#[]⟩,.bool false,.int .u64 0,.string ⟨#[]⟩,.int .u64 0,.string ⟨#[]⟩,.bool false,.int .u64 0,.string ⟨#[]⟩] 57)).alloc (.cells #[.int .u64 0,.string ⟨#[]⟩,.bool false,.int .u64 0,.string ⟨#[]⟩,.int .u64 0,.string ⟨#[]⟩,.bool false,.int .u64 0,.string ⟨#[]⟩] 57)).drew.setCells (wr.heap.size) 0 [.int .u64 (lowN (sz a.x.num)),.string (bigS (sz a.x.num)),.bool (ng a.x.num),.int .u64 (lowN (fm a.x)),.string (bigS (fm a.x)),.int .u64 (lowN (sz a.y.num)),.string (bigS (sz a.y.num)),.bool (ng a.y.num),.int .u64 (lowN (fm a.y)),.string (bigS (fm a.y))])from Gr.sets (by omega) _ _ (by(with_reducible (repeat' (first|exact Gr.refl _ _|refine Gr.drew ?_|refine Gr.setCell ?_ ?_ _|refine Gr.alloc ?_ ?_ _|omega|(simp;done)|(simp;omega))))))
    generalize (((wr.alloc (.cells #[.int .u64 0,.string ⟨#[]⟩,.bool false,.int .u64 0,.string ⟨#[]⟩,.int .u64 0,.string ⟨#[]⟩,.bool false,.int .u64 0,.string ⟨#[]⟩] 57)).alloc (.cells #[.int .u64 0,.string ⟨#[]⟩,.bool false,.int .u64 0,.string ⟨#[]⟩,.int .u64 0,.string ⟨#[]⟩,.bool false,.int .u64 0,.string ⟨#[]⟩] 57)).drew.setCells (wr.heap.size) 0 [.int .u64 (lowN (sz a.x.num)),.string (bigS (sz a.x.num)),.bool (ng a.x.num),.int .u64 (lowN (fm a.x)),.string (bigS (fm a.x)),.int .u64 (lowN (sz a.y.num)),.string (bigS (sz a.y.num)),.bool (ng a.y.num),.int .u64 (lowN (fm a.y)),.string (bigS (fm a.y))])=wq at *
    refine wpAnyH_ready (rs:= [11]) (by kernel_rfl) (by simp) ?_
    refine AllReadyH.cons (o:=⟨none,_,_,_,_,_⟩) rfl (fun K hK=>?_) AllReadyH.nil
    rw [if_pos (by rfl)]
    refine wp_store_mid 57 _ _ rfl (wr.heap.size+1) 0 (List.toArray [.int .u64 (lowN (sz b.x.num)),.string (bigS (sz b.x.num)),.bool (ng b.x.num),.int .u64 (lowN (fm b.x)),.string (bigS (fm b.x)),.int .u64 (lowN (sz b.y.num)),.string (bigS (sz b.y.num)),.bool (ng b.y.num),.int .u64 (lowN (fm b.y)),.string (bigS (fm b.y))]) rfl rfl (VB.there (cs:= [.int .u64 0,.string ⟨#[]⟩,.bool false,.int .u64 0,.string ⟨#[]⟩,.int .u64 0,.string ⟨#[]⟩,.bool false,.int .u64 0,.string ⟨#[]⟩]) ?_) info_Point (by first|rfl|simp [Value.oneCell']) ?_
    ·exact HQQ.out
    simp only [pS]
    refine hK.out _ _ ?_ (fun hQ4=>?_)
    ·have hh:=hQ3;(try dsimp only at hh ⊢);simp only [cell_sets_ne (show w.heap.size≠wr.heap.size+1 by omega)];exact hh
    clear hK K hQ3
    refine wpAnyH_done (by kernel_rfl) ?_ _
    go_wp2_with fail
    go_meet
    refine⟨wr.heap.size,wr.heap.size+1,rfl,rfl,⟨?_,?_,?_⟩⟩
    ·exact VB.fars (by omega) _ _ HPP.out
    ·exact VB.set (cs:= [.int .u64 0,.string ⟨#[]⟩,.bool false,.int .u64 0,.string ⟨#[]⟩,.int .u64 0,.string ⟨#[]⟩,.bool false,.int .u64 0,.string ⟨#[]⟩]) HQQ.out (pC b) rfl
    ·exact Gr.sets (by omega) _ _ HGG.out
   ·go_simp
    (try dsimp only)
    refine hK.out _ _ ?_ (fun hQ1=>?_)
    ·(first|exact trivial|((try dsimp only);simp [go_sem, *]))
    clear hK K hHeld
    try simp only [pS]
    refine rd 8 (fun K hK=>?_)
    go_simp
    (try dsimp only)
    refine hK.out _ _ ?_ (fun hQ2=>?_)
    ·(first|exact trivial|((try dsimp only);simp [go_sem, *]))
    clear hK K hQ1
    try simp only [pS]
    refine wpAnyH_ready (rs:= [10]) (by kernel_rfl) (by simp) ?_
    refine AllReadyH.cons (o:=⟨none,_,_,_,_,_⟩) rfl (fun K hK=>?_) AllReadyH.nil
    rw [if_pos (by rfl)]
    refine wp_store_mid 57 _ _ rfl (wr.heap.size+1) 0 (List.toArray [.int .u64 (lowN (sz a.x.num)),.string (bigS (sz a.x.num)),.bool (ng a.x.num),.int .u64 (lowN (fm a.x)),.string (bigS (fm a.x)),.int .u64 (lowN (sz a.y.num)),.string (bigS (sz a.y.num)),.bool (ng a.y.num),.int .u64 (lowN (fm a.y)),.string (bigS (fm a.y))]) rfl rfl (VB.there (cs:= [.int .u64 0,.string ⟨#[]⟩,.bool false,.int .u64 0,.string ⟨#[]⟩,.int .u64 0,.string ⟨#[]⟩,.bool false,.int .u64 0,.string ⟨#[]⟩]) ?_) info_Point (by first|rfl|simp [Value.oneCell']) ?_
    ·(with_reducible (repeat' (first|(refine VB.new' ?_;exact(by first|omega|(simp;done)|(simp;omega)))|apply VB.put2|apply VB.put3|apply VB.put5|refine VB.drew ?_|refine VB.far ?_ ?_ _|refine VB.alloc ?_ _|omega|(simp;done)|(simp;omega))))
    simp only [pS]
    refine hK.out _ _ ?_ (fun hQ3=>?_)
    ·have hh:=hQ2;(try dsimp only at hh ⊢);simp only [cell_sets_ne (show w.heap.size≠wr.heap.size+1 by omega)];exact hh
    clear hK K hQ2
    have HPP:=Lib.hid (show VB (((wr.alloc (.cells #[.int .u64 0,.string ⟨#[]⟩,.bool false,.int .u64 0,.string ⟨#[]⟩,.int .u64 0,.string ⟨#[]⟩,.bool false,.int .u64 0,.string ⟨#[]⟩] 57)).alloc (.cells #[.int .u64 0,.string ⟨#[]⟩,.bool false,.int .u64 0,.string ⟨#[]⟩,.int .u64 0,.string ⟨#[]⟩,.bool false,.int .u64 0,.string ⟨#[]⟩] 57)).drew.setCells (wr.heap.size+1) 0 [.int .u64 (lowN (sz a.x.num)),.string (bigS (sz a.x.num)),.bool (ng a.x.num),.int .u64 (lowN (fm a.x)),.string (bigS (fm a.x)),.int .u64 (lowN (sz a.y.num)),.string (bigS (sz a.y.num)),.bool (ng a.y.num),.int .u64 (lowN (fm a.y)),.string (bigS (fm a.y))]) (wr.heap.size+1) (pC a)from VB.set (cs:= [.int .u64 0,.string ⟨#[]⟩,.bool false,.int .u64 0,.string ⟨#[]⟩,.int .u64 0,.string ⟨#[]⟩,.bool false,.int .u64 0,.string ⟨#[]⟩]) (VB.drew (VB.new' (by simp))) (pC a) rfl)
    have HQQ:=Lib.hid (show VB (((wr.alloc (.cells #[.int .u64 0,.string ⟨#[]⟩,.bool false,.int .u64 0,.string ⟨#[]⟩,.int .u64 0,.string ⟨#[]⟩,.bool false,.int .u64 0,.string ⟨#[]⟩] 57)).alloc (.cells #[.int .u64 0,.string ⟨#[]⟩,.bool false,.int .u64 0,.string ⟨#[]⟩,.int .u64 0,.string ⟨#[]⟩,.bool false,.int .u64 0,.string ⟨#[]⟩] 57)).drew.setCells (wr.heap.size+1) 0 [.int .u64 (lowN (sz a.x.num)),.string (bigS (sz a.x.num)),.bool (ng a.x.num),.int .u64 (lowN (fm a.x)),.string (bigS (fm a.x)),.int .u64 (lowN (sz a.y.num)),.string (bigS (sz a.y.num)),.bool (ng a.y.num),.int .u64 (lowN (fm a.y)),.string (bigS (fm a.y))]) (wr.heap.size) [.int .u64 0,.string ⟨#[]⟩,.bool false,.int .u64 0,.string ⟨#[]⟩,.int .u64 0,.string ⟨#[]⟩,.bool false,.int .u64 0,.string ⟨#[]⟩]from VB.fars (by omega) _ _ (VB.drew (VB.alloc (VB.new' (w:=wr) rfl) _)))
    have HGG:=Lib.hid (show Gr wr.heap.size wr (((wr.alloc (.cells #[.int .u64 0,.string ⟨#[]⟩,.bool false,.int .u64 0,.string ⟨#[]⟩,.int .u64 0,.string ⟨#[]⟩,.bool false,.int .u64 0,.string ⟨#[]⟩] 57)).alloc (.cells #[.int .u64 0,.string ⟨#[]⟩,.bool false,.int .u64 0,.string ⟨#[]⟩,.int .u64 0,.string ⟨#[]⟩,.bool false,.int .u64 0,.string ⟨#[]⟩] 57)).drew.setCells (wr.heap.size+1) 0 [.int .u64 (lowN (sz a.x.num)),.string (bigS (sz a.x.num)),.bool (ng a.x.num),.int .u64 (lowN (fm a.x)),.string (bigS (fm a.x)),.int .u64 (lowN (sz a.y.num)),.string (bigS (sz a.y.num)),.bool (ng a.y.num),.int .u64 (lowN (fm a.y)),.string (bigS (fm a.y))])from Gr.sets (by omega) _ _ (by(with_reducible (repeat' (first|exact Gr.refl _ _|refine Gr.drew ?_|refine Gr.setCell ?_ ?_ _|refine Gr.alloc ?_ ?_ _|omega|(simp;done)|(simp;omega))))))
    generalize (((wr.alloc (.cells #[.int .u64 0,.string ⟨#[]⟩,.bool false,.int .u64 0,.string ⟨#[]⟩,.int .u64 0,.string ⟨#[]⟩,.bool false,.int .u64 0,.string ⟨#[]⟩] 57)).alloc (.cells #[.int .u64 0,.string ⟨#[]⟩,.bool false,.int .u64 0,.string ⟨#[]⟩,.int .u64 0,.string ⟨#[]⟩,.bool false,.int .u64 0,.string ⟨#[]⟩] 57)).drew.setCells (wr.heap.size+1) 0 [.int .u64 (lowN (sz a.x.num)),.string (bigS (sz a.x.num)),.bool (ng a.x.num),.int .u64 (lowN (fm a.x)),.string (bigS (fm a.x)),.int .u64 (lowN (sz a.y.num)),.string (bigS (sz a.y.num)),.bool (ng a.y.num),.int .u64 (lowN (fm a.y)),.string (bigS (fm a.y))])=wq at *
    refine wpAnyH_ready (rs:= [11]) (by kernel_rfl) (by simp) ?_
    refine AllReadyH.cons (o:=⟨none,_,_,_,_,_⟩) rfl (fun K hK=>?_) AllReadyH.nil
    rw [if_pos (by rfl)]
    refine wp_store_mid 57 _ _ rfl (wr.heap.size) 0 (List.toArray [.int .u64 (lowN (sz b.x.num)),.string (bigS (sz b.x.num)),.bool (ng b.x.num),.int .u64 (lowN (fm b.x)),.string (bigS (fm b.x)),.int .u64 (lowN (sz b.y.num)),.string (bigS (sz b.y.num)),.bool (ng b.y.num),.int .u64 (lowN (fm b.y)),.string (bigS (fm b.y))]) rfl rfl (VB.there (cs:= [.int .u64 0,.string ⟨#[]⟩,.bool false,.int .u64 0,.string ⟨#[]⟩,.int .u64 0,.string ⟨#[]⟩,.bool false,.int .u64 0,.string ⟨#[]⟩]) ?_) info_Point (by first|rfl|simp [Value.oneCell']) ?_
    ·exact HQQ.out
    simp only [pS]
    refine hK.out _ _ ?_ (fun hQ4=>?_)
    ·have hh:=hQ3;(try dsimp only at hh ⊢);simp only [cell_sets_ne (show w.heap.size≠wr.heap.size by omega)];exact hh
    clear hK K hQ3
    refine wpAnyH_done (by kernel_rfl) ?_ _
    go_wp2_with fail
    go_meet
    refine⟨wr.heap.size+1,wr.heap.size,rfl,rfl,⟨?_,?_,?_⟩⟩
    ·exact VB.fars (by omega) _ _ HPP.out
    ·exact VB.set (cs:= [.int .u64 0,.string ⟨#[]⟩,.bool false,.int .u64 0,.string ⟨#[]⟩,.int .u64 0,.string ⟨#[]⟩,.bool false,.int .u64 0,.string ⟨#[]⟩]) HQQ.out (pC b) rfl
    ·exact Gr.sets (by omega) _ _ HGG.out
  case rest=>
   obtain ⟨gp,gq,rfl,rfl,hB⟩:=hcut
   have hp1:=hB.p.lt
   have hq1:=hB.q.lt
   have HGx:=Lib.hid hB.gr
   have HBP:=Lib.hid hB.p
   have HBQ:=Lib.hid hB.q
   have hsx:=hB.gr.size
   clear hB
   go_wp2_with fail
   refine(contains_Pt (p:=fun r=>decide (0<turn a b r)) [d,e,f] _ 0 128 _ (SR.three (HV2.out.gr HGx.out h1) (HX.out.gr HGx.out h1)) ⟨fun _ _=>rfl,fun W hW x hx=>?_⟩).mono ?_
   ·exact ms_beyond1 a b x gp gq W (HBP.out.gr hW hp1) (HBQ.out.gr hW hq1) HA.out HB.out (H.out x hx).1
   rw [HE.out]
   rintro e w2 ⟨rfl,hg2⟩
   have HG2:=Lib.hid hg2
   clear hg2
   go_wp2
   go_ret
   exact⟨rfl,(HG0.out.trans (HGx.out.mono (by omega))).trans (HG2.out.mono (by omega))⟩
end Go.Proofs.YtmbmeggbojfecaaGreat
