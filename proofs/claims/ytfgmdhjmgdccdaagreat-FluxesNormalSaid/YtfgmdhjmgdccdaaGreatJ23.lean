/-
  Part 23 of the proof: BeyG.
-/
import Derived.Test.YtfgmdhjmgdccdaaGreatJ16
import Derived.Test.YtfgmdhjmgdccdaaGreatJ21
set_option linter.unusedSimpArgs false
set_option linter.unusedVariables false
namespace Go.Proofs.YtfgmdhjmgdccdaaGreat
open Go.RowKit Gus
def rightP (p q:Pt) (l:List Pt):Bool:= !(l.any fun r=>decide (0<turn p q r))
def beyP (a b c:Pt) (l:List Pt):Bool:=rightP a b l || rightP b c l || rightP c a l
def nth3 (a b c:Pt):Nat→Pt
 | 0=>a
 | 1=>b
 | _=>c
theorem nth3_at (a b c:Pt) {k:Nat} (h:k<3): [a,b,c][k]=nth3 a b c k:=by
 rcases(show k=0∨k=1∨k=2 by omega)with rfl|rfl|rfl<;>rfl
theorem nth3_hp {a b c:Pt} {n:Nat} (ha:hp a≤n) (hb:hp b≤n) (hc:hp c≤n) (k:Nat):hp (nth3 a b c k)≤n:=by
 unfold nth3;split<;>assumption
theorem beyP_true {a b c:Pt} {l:List Pt} {k:Nat} (hk:k<3) (h:rightP (nth3 a b c k) (nth3 a b c ((k+1) % 3)) l=true):beyP a b c l=true:=by
 unfold beyP
 rcases(show k=0∨k=1∨k=2 by omega)with rfl|rfl|rfl<;>simp [nth3]at h<;>simp [h]
theorem beyP_false {a b c:Pt} {l:List Pt} (h:∀j,j<3→rightP (nth3 a b c j) (nth3 a b c ((j+1) % 3)) l=false):beyP a b c l=false:=by
 unfold beyP
 have h0:=h 0 (by omega);have h1:=h 1 (by omega);have h2:=h 2 (by omega)
 simp [nth3]at h0 h1 h2
 simp [h0,h1,h2]
theorem tmod3 {k:Nat} (h:k<3):((k:Int)+1).tmod 3=(((k+1) % 3:Nat):Int):=by
 rcases(show k=0∨k=1∨k=2 by omega)with rfl|rfl|rfl<;>decide
theorem c3_rc {w:World} {g:Nat} {a b c:Pt} (h:VB w g (c3C a b c)):RC pC 10 w g [a,b,c]:=RC.of_flat pC_len fun i u hu=>h.c i u hu
set_option maxRecDepth 20000 in
set_option maxHeartbeats 8000000 in
theorem ms_beyondG (a b c d e f:Pt) (w:World) (ha:hp a≤1000000000) (hb:hp b≤1000000000) (hc:hp c≤1000000000) (h:∀r∈ [d,e,f],hp r≤1000000000):
  Calls Tryz.prog 138 #[c3V a b c,c3V d e f] w (Ret w (.bool (beyP a b c [d,e,f]))):=by
 have HA:=Lib.hid (nth3_hp ha hb hc)
 have H:=Lib.hid h
 clear h ha hb hc
 obtain ⟨r0,hr0⟩:∃r,beyP a b c [d,e,f]=r:=⟨_,rfl⟩
 rw [hr0]
 replace hr0:=Lib.hid hr0
 go_enter Tryz.func138,Tryz.ntmps138
 go_wp2
 have HV1:=Lib.hid (show VB ((w.alloc (.cells #[.int .u64 (lowN (sz a.x.num)),.string (bigS (sz a.x.num)),.bool (ng a.x.num),.int .u64 (lowN (fm a.x)),.string (bigS (fm a.x)),.int .u64 (lowN (sz a.y.num)),.string (bigS (sz a.y.num)),.bool (ng a.y.num),.int .u64 (lowN (fm a.y)),.string (bigS (fm a.y)),.int .u64 (lowN (sz b.x.num)),.string (bigS (sz b.x.num)),.bool (ng b.x.num),.int .u64 (lowN (fm b.x)),.string (bigS (fm b.x)),.int .u64 (lowN (sz b.y.num)),.string (bigS (sz b.y.num)),.bool (ng b.y.num),.int .u64 (lowN (fm b.y)),.string (bigS (fm b.y)),.int .u64 (lowN (sz c.x.num)),.string (bigS (sz c.x.num)),.bool (ng c.x.num),.int .u64 (lowN (fm c.x)),.string (bigS (fm c.x)),.int .u64 (lowN (sz c.y.num)),.string (bigS (sz c.y.num)),.bool (ng c.y.num),.int .u64 (lowN (fm c.y)),.string (bigS (fm c.y))] 197)).alloc (.cells #[.int .u64 (lowN (sz d.x.num)),.string (bigS (sz d.x.num)),.bool (ng d.x.num),.int .u64 (lowN (fm d.x)),.string (bigS (fm d.x)),.int .u64 (lowN (sz d.y.num)),.string (bigS (sz d.y.num)),.bool (ng d.y.num),.int .u64 (lowN (fm d.y)),.string (bigS (fm d.y)),.int .u64 (lowN (sz e.x.num)),.string (bigS (sz e.x.num)),.bool (ng e.x.num),.int .u64 (lowN (fm e.x)),.string (bigS (fm e.x)),.int .u64 (lowN (sz e.y.num)),.string (bigS (sz e.y.num)),.bool (ng e.y.num),.int .u64 (lowN (fm e.y)),.string (bigS (fm e.y)),.int .u64 (lowN (sz f.x.num)),.string (bigS (sz f.x.num)),.bool (ng f.x.num),.int .u64 (lowN (fm f.x)),.string (bigS (fm f.x)),.int .u64 (lowN (sz f.y.num)),.string (bigS (sz f.y.num)),.bool (ng f.y.num),.int .u64 (lowN (fm f.y)),.string (bigS (fm f.y))] 197)) w.heap.size (c3C a b c)from by exact vbb)
 have HV2:=Lib.hid (show VB ((w.alloc (.cells #[.int .u64 (lowN (sz a.x.num)),.string (bigS (sz a.x.num)),.bool (ng a.x.num),.int .u64 (lowN (fm a.x)),.string (bigS (fm a.x)),.int .u64 (lowN (sz a.y.num)),.string (bigS (sz a.y.num)),.bool (ng a.y.num),.int .u64 (lowN (fm a.y)),.string (bigS (fm a.y)),.int .u64 (lowN (sz b.x.num)),.string (bigS (sz b.x.num)),.bool (ng b.x.num),.int .u64 (lowN (fm b.x)),.string (bigS (fm b.x)),.int .u64 (lowN (sz b.y.num)),.string (bigS (sz b.y.num)),.bool (ng b.y.num),.int .u64 (lowN (fm b.y)),.string (bigS (fm b.y)),.int .u64 (lowN (sz c.x.num)),.string (bigS (sz c.x.num)),.bool (ng c.x.num),.int .u64 (lowN (fm c.x)),.string (bigS (fm c.x)),.int .u64 (lowN (sz c.y.num)),.string (bigS (sz c.y.num)),.bool (ng c.y.num),.int .u64 (lowN (fm c.y)),.string (bigS (fm c.y))] 197)).alloc (.cells #[.int .u64 (lowN (sz d.x.num)),.string (bigS (sz d.x.num)),.bool (ng d.x.num),.int .u64 (lowN (fm d.x)),.string (bigS (fm d.x)),.int .u64 (lowN (sz d.y.num)),.string (bigS (sz d.y.num)),.bool (ng d.y.num),.int .u64 (lowN (fm d.y)),.string (bigS (fm d.y)),.int .u64 (lowN (sz e.x.num)),.string (bigS (sz e.x.num)),.bool (ng e.x.num),.int .u64 (lowN (fm e.x)),.string (bigS (fm e.x)),.int .u64 (lowN (sz e.y.num)),.string (bigS (sz e.y.num)),.bool (ng e.y.num),.int .u64 (lowN (fm e.y)),.string (bigS (fm e.y)),.int .u64 (lowN (sz f.x.num)),.string (bigS (sz f.x.num)),.bool (ng f.x.num),.int .u64 (lowN (fm f.x)),.string (bigS (fm f.x)),.int .u64 (lowN (sz f.y.num)),.string (bigS (sz f.y.num)),.bool (ng f.y.num),.int .u64 (lowN (fm f.y)),.string (bigS (fm f.y))] 197)) (w.heap.size+1) (c3C d e f)from by exact vbb)
 have HX:=Lib.hid (show Shx ((w.alloc (.cells #[.int .u64 (lowN (sz a.x.num)),.string (bigS (sz a.x.num)),.bool (ng a.x.num),.int .u64 (lowN (fm a.x)),.string (bigS (fm a.x)),.int .u64 (lowN (sz a.y.num)),.string (bigS (sz a.y.num)),.bool (ng a.y.num),.int .u64 (lowN (fm a.y)),.string (bigS (fm a.y)),.int .u64 (lowN (sz b.x.num)),.string (bigS (sz b.x.num)),.bool (ng b.x.num),.int .u64 (lowN (fm b.x)),.string (bigS (fm b.x)),.int .u64 (lowN (sz b.y.num)),.string (bigS (sz b.y.num)),.bool (ng b.y.num),.int .u64 (lowN (fm b.y)),.string (bigS (fm b.y)),.int .u64 (lowN (sz c.x.num)),.string (bigS (sz c.x.num)),.bool (ng c.x.num),.int .u64 (lowN (fm c.x)),.string (bigS (fm c.x)),.int .u64 (lowN (sz c.y.num)),.string (bigS (sz c.y.num)),.bool (ng c.y.num),.int .u64 (lowN (fm c.y)),.string (bigS (fm c.y))] 197)).alloc (.cells #[.int .u64 (lowN (sz d.x.num)),.string (bigS (sz d.x.num)),.bool (ng d.x.num),.int .u64 (lowN (fm d.x)),.string (bigS (fm d.x)),.int .u64 (lowN (sz d.y.num)),.string (bigS (sz d.y.num)),.bool (ng d.y.num),.int .u64 (lowN (fm d.y)),.string (bigS (fm d.y)),.int .u64 (lowN (sz e.x.num)),.string (bigS (sz e.x.num)),.bool (ng e.x.num),.int .u64 (lowN (fm e.x)),.string (bigS (fm e.x)),.int .u64 (lowN (sz e.y.num)),.string (bigS (sz e.y.num)),.bool (ng e.y.num),.int .u64 (lowN (fm e.y)),.string (bigS (fm e.y)),.int .u64 (lowN (sz f.x.num)),.string (bigS (sz f.x.num)),.bool (ng f.x.num),.int .u64 (lowN (fm f.x)),.string (bigS (fm f.x)),.int .u64 (lowN (sz f.y.num)),.string (bigS (sz f.y.num)),.bool (ng f.y.num),.int .u64 (lowN (fm f.y)),.string (bigS (fm f.y))] 197)) (w.heap.size+1) 197 from by
  have h:=Shx.new (w.alloc (.cells #[.int .u64 (lowN (sz a.x.num)),.string (bigS (sz a.x.num)),.bool (ng a.x.num),.int .u64 (lowN (fm a.x)),.string (bigS (fm a.x)),.int .u64 (lowN (sz a.y.num)),.string (bigS (sz a.y.num)),.bool (ng a.y.num),.int .u64 (lowN (fm a.y)),.string (bigS (fm a.y)),.int .u64 (lowN (sz b.x.num)),.string (bigS (sz b.x.num)),.bool (ng b.x.num),.int .u64 (lowN (fm b.x)),.string (bigS (fm b.x)),.int .u64 (lowN (sz b.y.num)),.string (bigS (sz b.y.num)),.bool (ng b.y.num),.int .u64 (lowN (fm b.y)),.string (bigS (fm b.y)),.int .u64 (lowN (sz c.x.num)),.string (bigS (sz c.x.num)),.bool (ng c.x.num),.int .u64 (lowN (fm c.x)),.string (bigS (fm c.x)),.int .u64 (lowN (sz c.y.num)),.string (bigS (sz c.y.num)),.bool (ng c.y.num),.int .u64 (lowN (fm c.y)),.string (bigS (fm c.y))] 197)) #[.int .u64 (lowN (sz d.x.num)),.string (bigS (sz d.x.num)),.bool (ng d.x.num),.int .u64 (lowN (fm d.x)),.string (bigS (fm d.x)),.int .u64 (lowN (sz d.y.num)),.string (bigS (sz d.y.num)),.bool (ng d.y.num),.int .u64 (lowN (fm d.y)),.string (bigS (fm d.y)),.int .u64 (lowN (sz e.x.num)),.string (bigS (sz e.x.num)),.bool (ng e.x.num),.int .u64 (lowN (fm e.x)),.string (bigS (fm e.x)),.int .u64 (lowN (sz e.y.num)),.string (bigS (sz e.y.num)),.bool (ng e.y.num),.int .u64 (lowN (fm e.y)),.string (bigS (fm e.y)),.int .u64 (lowN (sz f.x.num)),.string (bigS (sz f.x.num)),.bool (ng f.x.num),.int .u64 (lowN (fm f.x)),.string (bigS (fm f.x)),.int .u64 (lowN (sz f.y.num)),.string (bigS (sz f.y.num)),.bool (ng f.y.num),.int .u64 (lowN (fm f.y)),.string (bigS (fm f.y))] 197
  simpa using h)
 have HG0:=Lib.hid (show Gr w.heap.size w ((w.alloc (.cells #[.int .u64 (lowN (sz a.x.num)),.string (bigS (sz a.x.num)),.bool (ng a.x.num),.int .u64 (lowN (fm a.x)),.string (bigS (fm a.x)),.int .u64 (lowN (sz a.y.num)),.string (bigS (sz a.y.num)),.bool (ng a.y.num),.int .u64 (lowN (fm a.y)),.string (bigS (fm a.y)),.int .u64 (lowN (sz b.x.num)),.string (bigS (sz b.x.num)),.bool (ng b.x.num),.int .u64 (lowN (fm b.x)),.string (bigS (fm b.x)),.int .u64 (lowN (sz b.y.num)),.string (bigS (sz b.y.num)),.bool (ng b.y.num),.int .u64 (lowN (fm b.y)),.string (bigS (fm b.y)),.int .u64 (lowN (sz c.x.num)),.string (bigS (sz c.x.num)),.bool (ng c.x.num),.int .u64 (lowN (fm c.x)),.string (bigS (fm c.x)),.int .u64 (lowN (sz c.y.num)),.string (bigS (sz c.y.num)),.bool (ng c.y.num),.int .u64 (lowN (fm c.y)),.string (bigS (fm c.y))] 197)).alloc (.cells #[.int .u64 (lowN (sz d.x.num)),.string (bigS (sz d.x.num)),.bool (ng d.x.num),.int .u64 (lowN (fm d.x)),.string (bigS (fm d.x)),.int .u64 (lowN (sz d.y.num)),.string (bigS (sz d.y.num)),.bool (ng d.y.num),.int .u64 (lowN (fm d.y)),.string (bigS (fm d.y)),.int .u64 (lowN (sz e.x.num)),.string (bigS (sz e.x.num)),.bool (ng e.x.num),.int .u64 (lowN (fm e.x)),.string (bigS (fm e.x)),.int .u64 (lowN (sz e.y.num)),.string (bigS (sz e.y.num)),.bool (ng e.y.num),.int .u64 (lowN (fm e.y)),.string (bigS (fm e.y)),.int .u64 (lowN (sz f.x.num)),.string (bigS (sz f.x.num)),.bool (ng f.x.num),.int .u64 (lowN (fm f.x)),.string (bigS (fm f.x)),.int .u64 (lowN (sz f.y.num)),.string (bigS (sz f.y.num)),.bool (ng f.y.num),.int .u64 (lowN (fm f.y)),.string (bigS (fm f.y))] 197))from by exact gzz)
 generalize (w.alloc (.cells #[.int .u64 (lowN (sz a.x.num)),.string (bigS (sz a.x.num)),.bool (ng a.x.num),.int .u64 (lowN (fm a.x)),.string (bigS (fm a.x)),.int .u64 (lowN (sz a.y.num)),.string (bigS (sz a.y.num)),.bool (ng a.y.num),.int .u64 (lowN (fm a.y)),.string (bigS (fm a.y)),.int .u64 (lowN (sz b.x.num)),.string (bigS (sz b.x.num)),.bool (ng b.x.num),.int .u64 (lowN (fm b.x)),.string (bigS (fm b.x)),.int .u64 (lowN (sz b.y.num)),.string (bigS (sz b.y.num)),.bool (ng b.y.num),.int .u64 (lowN (fm b.y)),.string (bigS (fm b.y)),.int .u64 (lowN (sz c.x.num)),.string (bigS (sz c.x.num)),.bool (ng c.x.num),.int .u64 (lowN (fm c.x)),.string (bigS (fm c.x)),.int .u64 (lowN (sz c.y.num)),.string (bigS (sz c.y.num)),.bool (ng c.y.num),.int .u64 (lowN (fm c.y)),.string (bigS (fm c.y))] 197)).alloc (.cells #[.int .u64 (lowN (sz d.x.num)),.string (bigS (sz d.x.num)),.bool (ng d.x.num),.int .u64 (lowN (fm d.x)),.string (bigS (fm d.x)),.int .u64 (lowN (sz d.y.num)),.string (bigS (sz d.y.num)),.bool (ng d.y.num),.int .u64 (lowN (fm d.y)),.string (bigS (fm d.y)),.int .u64 (lowN (sz e.x.num)),.string (bigS (sz e.x.num)),.bool (ng e.x.num),.int .u64 (lowN (fm e.x)),.string (bigS (fm e.x)),.int .u64 (lowN (sz e.y.num)),.string (bigS (sz e.y.num)),.bool (ng e.y.num),.int .u64 (lowN (fm e.y)),.string (bigS (fm e.y)),.int .u64 (lowN (sz f.x.num)),.string (bigS (sz f.x.num)),.bool (ng f.x.num),.int .u64 (lowN (fm f.x)),.string (bigS (fm f.x)),.int .u64 (lowN (sz f.y.num)),.string (bigS (sz f.y.num)),.bool (ng f.y.num),.int .u64 (lowN (fm f.y)),.string (bigS (fm f.y))] 197)=w0 at *
 go_loopw [8] (fun s wr=> ∃k:Nat,k≤3∧s= .int .i64 k∧Hid (∀j,j<k→rightP (nth3 a b c j) (nth3 a b c ((j+1) % 3)) [d,e,f]=false)∧Hid (VB wr w.heap.size (c3C a b c))∧Hid (VB wr (w.heap.size+1) (c3C d e f))∧Hid (Shx wr (w.heap.size+1) 197)∧Hid (Gr w.heap.size w wr)) (fun s _=>3 - (intOf s).toNat)
 case atStart=>exact⟨0,by omega,rfl,Lib.hid (fun j hj=>absurd hj (by omega)),HV1,HV2,HX,HG0⟩
 case round=>
  clear HV1 HV2 HX HG0
  obtain ⟨k,hk,rfl,HJ,HV1,HV2,HX,HG0⟩:=hrel
  have h0:=HV1.out.lt
  have h1:=HV2.out.lt
  by_cases hk3:k<3
  ·have hw1:IntKind.i64.wrap ((k:Int)+1)=(k:Int)+1:=wrap64_id (by omega) (by omega)
   have hw2:=tmod3 hk3
   obtain ⟨k2,hk2⟩:∃x,(k+1) % 3=x:=⟨_,rfl⟩
   have hk23:k2<3:=by omega
   rw [hk2]at hw2
   have HK2:=Lib.hid hk2
   clear hk2
   have hw3:IntKind.i64.wrap (k2:Int)=(k2:Int):=wrap64_id (by omega) (by omega)
   have hb0:(k:Int)<3:=by omega
   have hb1:(k2:Int)<3:=by omega
   obtain ⟨p,hp'⟩:∃p,nth3 a b c k=p:=⟨_,rfl⟩
   obtain ⟨q,hq'⟩:∃q,nth3 a b c k2=q:=⟨_,rfl⟩
   obtain ⟨a0,a1,a2,a3,a4,a5,a6,a7,a8,a9⟩:=(c3_rc HV1.out).fPt (j:=k) (by simp;omega) ((nth3_at a b c hk3).trans hp')
   obtain ⟨b0,b1,b2,b3,b4,b5,b6,b7,b8,b9⟩:=(c3_rc HV1.out).fPt (j:=k2) (by simp;omega) ((nth3_at a b c hk23).trans hq')
   have HPQ:=Lib.hid (And.intro hp' hq')
   have hhp:=HA.out k
   have hhq:=HA.out k2
   rw [hp']at hhp
   rw [hq']at hhq
   replace hhp:=Lib.hid hhp
   replace hhq:=Lib.hid hhq
   clear hp' hq'
   go_upto_region 4 with fail
   go_cut [6,7] (fun x y wx=> ∃gp gq,x= .pointer (some ⟨gp,0,none⟩)∧y= .pointer (some ⟨gq,0,none⟩)∧BeyS w wr wx gp gq p q)
   case first=>
    refine wp_region_held_drew (S:=(fun w'=>w'.cell? ⟨w.heap.size,k*10,none⟩=some (.int .u64 (lowN (sz p.x.num)))∧w'.cell? ⟨w.heap.size,k*10+1,none⟩=some (.string (bigS (sz p.x.num)))∧w'.cell? ⟨w.heap.size,k*10+2,none⟩=some (.bool (ng p.x.num))∧w'.cell? ⟨w.heap.size,k*10+3,none⟩=some (.int .u64 (lowN (fm p.x)))∧w'.cell? ⟨w.heap.size,k*10+4,none⟩=some (.string (bigS (fm p.x)))∧w'.cell? ⟨w.heap.size,k*10+5,none⟩=some (.int .u64 (lowN (sz p.y.num)))∧w'.cell? ⟨w.heap.size,k*10+6,none⟩=some (.string (bigS (sz p.y.num)))∧w'.cell? ⟨w.heap.size,k*10+7,none⟩=some (.bool (ng p.y.num))∧w'.cell? ⟨w.heap.size,k*10+8,none⟩=some (.int .u64 (lowN (fm p.y)))∧w'.cell? ⟨w.heap.size,k*10+9,none⟩=some (.string (bigS (fm p.y)))∧w'.cell? ⟨w.heap.size,k2*10,none⟩=some (.int .u64 (lowN (sz q.x.num)))∧w'.cell? ⟨w.heap.size,k2*10+1,none⟩=some (.string (bigS (sz q.x.num)))∧w'.cell? ⟨w.heap.size,k2*10+2,none⟩=some (.bool (ng q.x.num))∧w'.cell? ⟨w.heap.size,k2*10+3,none⟩=some (.int .u64 (lowN (fm q.x)))∧w'.cell? ⟨w.heap.size,k2*10+4,none⟩=some (.string (bigS (fm q.x)))∧w'.cell? ⟨w.heap.size,k2*10+5,none⟩=some (.int .u64 (lowN (sz q.y.num)))∧w'.cell? ⟨w.heap.size,k2*10+6,none⟩=some (.string (bigS (sz q.y.num)))∧w'.cell? ⟨w.heap.size,k2*10+7,none⟩=some (.bool (ng q.y.num))∧w'.cell? ⟨w.heap.size,k2*10+8,none⟩=some (.int .u64 (lowN (fm q.y)))∧w'.cell? ⟨w.heap.size,k2*10+9,none⟩=some (.string (bigS (fm q.y))))) (by kernel_rfl) ?_ (fun hHeld=>?_)
    ·simp [go_sem, *]
    refine tk 0 (some 11) (.int .i64 (k:Int)) ?_
    try simp only [pS]
    refine tk 1 (some 12) (.pointer (some ⟨w.heap.size,k*10,none⟩)) ?_
    try simp only [pS]
    refine tk 2 (some 13) (pV p) ?_
    try simp only [pS]
    refine tk 3 (some 14) (.int .i64 (k:Int)) ?_
    try simp only [pS]
    refine tk 4 (some 15) (.int .i64 ((k:Int)+1)) ?_
    try simp only [pS]
    refine tk 5 (some 16) (.int .i64 (k2:Int)) ?_
    try simp only [pS]
    refine tk 6 (some 17) (.pointer (some ⟨w.heap.size,k2*10,none⟩)) ?_
    try simp only [pS]
    refine tk 7 (some 18) (pV q) ?_
    try simp only [pS]
    refine wpAnyH_ready (rs:= [8,9]) (by kernel_rfl) (by simp) ?_
    refine AllReadyH.cons rfl (fun K hK=>?_) (AllReadyH.cons rfl (fun K hK=>?_) AllReadyH.nil)
    ·go_simp
     (try dsimp only)
     refine hK.out _ _ ?_ (fun hQ1=>?_)
     ·(first|exact trivial|((try dsimp only);simp [go_sem, *]))
     clear hK K hHeld
     try simp only [pS]
     refine rd 9 (fun K hK=>?_)
     go_simp
     (try dsimp only)
     refine hK.out _ _ ?_ (fun hQ2=>?_)
     ·(first|exact trivial|((try dsimp only);simp [go_sem, *]))
     clear hK K hQ1
     try simp only [pS]
     refine wpAnyH_ready (rs:= [10]) (by kernel_rfl) (by simp) ?_
     refine AllReadyH.cons (o:=⟨none,_,_,_,_,_⟩) rfl (fun K hK=>?_) AllReadyH.nil
     rw [if_pos (by rfl)]
     refine wp_store_mid 64 _ _ rfl (wr.heap.size) 0 (List.toArray [.int .u64 (lowN (sz p.x.num)),.string (bigS (sz p.x.num)),.bool (ng p.x.num),.int .u64 (lowN (fm p.x)),.string (bigS (fm p.x)),.int .u64 (lowN (sz p.y.num)),.string (bigS (sz p.y.num)),.bool (ng p.y.num),.int .u64 (lowN (fm p.y)),.string (bigS (fm p.y))]) rfl rfl (VB.there (cs:= [.int .u64 0,.string ⟨#[]⟩,.bool false,.int .u64 0,.string ⟨#[]⟩,.int .u64 0,.string ⟨#[]⟩,.bool false,.int .u64 0,.string ⟨#[]⟩]) ?_) info_Point (by first|rfl|simp [Value.oneCell']) ?_
     ·exact vbb
     simp only [pS]
     refine hK.out _ _ ?_ (fun hQ3=>?_)
     ·have hh:=hQ2;(try dsimp only at hh ⊢);simp only [cell_sets_ne (show w.heap.size≠wr.heap.size by omega)];exact hh
     clear hK K hQ2
     have HPP:=Lib.hid (show VB (((wr.alloc (.cells #[.int .u64 0,.string ⟨#[]⟩,.bool false,.int .u64 0,.string ⟨#[]⟩,.int .u64 0,.string ⟨#[]⟩,.bool false,.int .u64 0,.string ⟨#[]⟩] 64)).alloc (.cells #[.int .u64 0,.string ⟨#[]⟩,.bool false,.int .u64 0,.string ⟨#[]⟩,.int .u64 0,.string ⟨#[]⟩,.bool false,.int .u64 0,.string ⟨#[]⟩] 64)).drew.setCells (wr.heap.size) 0 [.int .u64 (lowN (sz p.x.num)),.string (bigS (sz p.x.num)),.bool (ng p.x.num),.int .u64 (lowN (fm p.x)),.string (bigS (fm p.x)),.int .u64 (lowN (sz p.y.num)),.string (bigS (sz p.y.num)),.bool (ng p.y.num),.int .u64 (lowN (fm p.y)),.string (bigS (fm p.y))]) (wr.heap.size) (pC p)from VB.set (cs:= [.int .u64 0,.string ⟨#[]⟩,.bool false,.int .u64 0,.string ⟨#[]⟩,.int .u64 0,.string ⟨#[]⟩,.bool false,.int .u64 0,.string ⟨#[]⟩]) (VB.drew (VB.alloc (VB.new' (w:=wr) rfl) _)) (pC p) rfl)
     have HQQ:=Lib.hid (show VB (((wr.alloc (.cells #[.int .u64 0,.string ⟨#[]⟩,.bool false,.int .u64 0,.string ⟨#[]⟩,.int .u64 0,.string ⟨#[]⟩,.bool false,.int .u64 0,.string ⟨#[]⟩] 64)).alloc (.cells #[.int .u64 0,.string ⟨#[]⟩,.bool false,.int .u64 0,.string ⟨#[]⟩,.int .u64 0,.string ⟨#[]⟩,.bool false,.int .u64 0,.string ⟨#[]⟩] 64)).drew.setCells (wr.heap.size) 0 [.int .u64 (lowN (sz p.x.num)),.string (bigS (sz p.x.num)),.bool (ng p.x.num),.int .u64 (lowN (fm p.x)),.string (bigS (fm p.x)),.int .u64 (lowN (sz p.y.num)),.string (bigS (sz p.y.num)),.bool (ng p.y.num),.int .u64 (lowN (fm p.y)),.string (bigS (fm p.y))]) (wr.heap.size+1) [.int .u64 0,.string ⟨#[]⟩,.bool false,.int .u64 0,.string ⟨#[]⟩,.int .u64 0,.string ⟨#[]⟩,.bool false,.int .u64 0,.string ⟨#[]⟩]from VB.fars (by omega) _ _ (VB.drew (VB.new' (by simp))))
     have HGG:=Lib.hid (show Gr wr.heap.size wr (((wr.alloc (.cells #[.int .u64 0,.string ⟨#[]⟩,.bool false,.int .u64 0,.string ⟨#[]⟩,.int .u64 0,.string ⟨#[]⟩,.bool false,.int .u64 0,.string ⟨#[]⟩] 64)).alloc (.cells #[.int .u64 0,.string ⟨#[]⟩,.bool false,.int .u64 0,.string ⟨#[]⟩,.int .u64 0,.string ⟨#[]⟩,.bool false,.int .u64 0,.string ⟨#[]⟩] 64)).drew.setCells (wr.heap.size) 0 [.int .u64 (lowN (sz p.x.num)),.string (bigS (sz p.x.num)),.bool (ng p.x.num),.int .u64 (lowN (fm p.x)),.string (bigS (fm p.x)),.int .u64 (lowN (sz p.y.num)),.string (bigS (sz p.y.num)),.bool (ng p.y.num),.int .u64 (lowN (fm p.y)),.string (bigS (fm p.y))])from Gr.sets (by omega) _ _ (by exact gzz))
     generalize (((wr.alloc (.cells #[.int .u64 0,.string ⟨#[]⟩,.bool false,.int .u64 0,.string ⟨#[]⟩,.int .u64 0,.string ⟨#[]⟩,.bool false,.int .u64 0,.string ⟨#[]⟩] 64)).alloc (.cells #[.int .u64 0,.string ⟨#[]⟩,.bool false,.int .u64 0,.string ⟨#[]⟩,.int .u64 0,.string ⟨#[]⟩,.bool false,.int .u64 0,.string ⟨#[]⟩] 64)).drew.setCells (wr.heap.size) 0 [.int .u64 (lowN (sz p.x.num)),.string (bigS (sz p.x.num)),.bool (ng p.x.num),.int .u64 (lowN (fm p.x)),.string (bigS (fm p.x)),.int .u64 (lowN (sz p.y.num)),.string (bigS (sz p.y.num)),.bool (ng p.y.num),.int .u64 (lowN (fm p.y)),.string (bigS (fm p.y))])=wq at *
     refine wpAnyH_ready (rs:= [11]) (by kernel_rfl) (by simp) ?_
     refine AllReadyH.cons (o:=⟨none,_,_,_,_,_⟩) rfl (fun K hK=>?_) AllReadyH.nil
     rw [if_pos (by rfl)]
     refine wp_store_mid 64 _ _ rfl (wr.heap.size+1) 0 (List.toArray [.int .u64 (lowN (sz q.x.num)),.string (bigS (sz q.x.num)),.bool (ng q.x.num),.int .u64 (lowN (fm q.x)),.string (bigS (fm q.x)),.int .u64 (lowN (sz q.y.num)),.string (bigS (sz q.y.num)),.bool (ng q.y.num),.int .u64 (lowN (fm q.y)),.string (bigS (fm q.y))]) rfl rfl (VB.there (cs:= [.int .u64 0,.string ⟨#[]⟩,.bool false,.int .u64 0,.string ⟨#[]⟩,.int .u64 0,.string ⟨#[]⟩,.bool false,.int .u64 0,.string ⟨#[]⟩]) ?_) info_Point (by first|rfl|simp [Value.oneCell']) ?_
     ·exact HQQ.out
     simp only [pS]
     refine hK.out _ _ ?_ (fun hQ4=>?_)
     ·have hh:=hQ3;(try dsimp only at hh ⊢);simp only [cell_sets_ne (show w.heap.size≠wr.heap.size+1 by omega)];exact hh
     clear hK K hQ3
     refine wpAnyH_done (by kernel_rfl) ?_ _
     go_wp2_with fail
     go_meet
     refine⟨wr.heap.size,wr.heap.size+1,rfl,rfl,⟨?_,?_,?_⟩⟩
     ·exact VB.fars (by omega) _ _ HPP.out
     ·exact VB.set (cs:= [.int .u64 0,.string ⟨#[]⟩,.bool false,.int .u64 0,.string ⟨#[]⟩,.int .u64 0,.string ⟨#[]⟩,.bool false,.int .u64 0,.string ⟨#[]⟩]) HQQ.out (pC q) rfl
     ·exact Gr.sets (by omega) _ _ HGG.out
    ·go_simp
     (try dsimp only)
     refine hK.out _ _ ?_ (fun hQ1=>?_)
     ·(first|exact trivial|((try dsimp only);simp [go_sem, *]))
     clear hK K hHeld
     try simp only [pS]
     refine rd 8 (fun K hK=>?_)
     go_simp
     (try dsimp only)
     refine hK.out _ _ ?_ (fun hQ2=>?_)
     ·(first|exact trivial|((try dsimp only);simp [go_sem, *]))
     clear hK K hQ1
     try simp only [pS]
     refine wpAnyH_ready (rs:= [10]) (by kernel_rfl) (by simp) ?_
     refine AllReadyH.cons (o:=⟨none,_,_,_,_,_⟩) rfl (fun K hK=>?_) AllReadyH.nil
     rw [if_pos (by rfl)]
     refine wp_store_mid 64 _ _ rfl (wr.heap.size+1) 0 (List.toArray [.int .u64 (lowN (sz p.x.num)),.string (bigS (sz p.x.num)),.bool (ng p.x.num),.int .u64 (lowN (fm p.x)),.string (bigS (fm p.x)),.int .u64 (lowN (sz p.y.num)),.string (bigS (sz p.y.num)),.bool (ng p.y.num),.int .u64 (lowN (fm p.y)),.string (bigS (fm p.y))]) rfl rfl (VB.there (cs:= [.int .u64 0,.string ⟨#[]⟩,.bool false,.int .u64 0,.string ⟨#[]⟩,.int .u64 0,.string ⟨#[]⟩,.bool false,.int .u64 0,.string ⟨#[]⟩]) ?_) info_Point (by first|rfl|simp [Value.oneCell']) ?_
     ·exact vbb
     simp only [pS]
     refine hK.out _ _ ?_ (fun hQ3=>?_)
     ·have hh:=hQ2;(try dsimp only at hh ⊢);simp only [cell_sets_ne (show w.heap.size≠wr.heap.size+1 by omega)];exact hh
     clear hK K hQ2
     have HPP:=Lib.hid (show VB (((wr.alloc (.cells #[.int .u64 0,.string ⟨#[]⟩,.bool false,.int .u64 0,.string ⟨#[]⟩,.int .u64 0,.string ⟨#[]⟩,.bool false,.int .u64 0,.string ⟨#[]⟩] 64)).alloc (.cells #[.int .u64 0,.string ⟨#[]⟩,.bool false,.int .u64 0,.string ⟨#[]⟩,.int .u64 0,.string ⟨#[]⟩,.bool false,.int .u64 0,.string ⟨#[]⟩] 64)).drew.setCells (wr.heap.size+1) 0 [.int .u64 (lowN (sz p.x.num)),.string (bigS (sz p.x.num)),.bool (ng p.x.num),.int .u64 (lowN (fm p.x)),.string (bigS (fm p.x)),.int .u64 (lowN (sz p.y.num)),.string (bigS (sz p.y.num)),.bool (ng p.y.num),.int .u64 (lowN (fm p.y)),.string (bigS (fm p.y))]) (wr.heap.size+1) (pC p)from VB.set (cs:= [.int .u64 0,.string ⟨#[]⟩,.bool false,.int .u64 0,.string ⟨#[]⟩,.int .u64 0,.string ⟨#[]⟩,.bool false,.int .u64 0,.string ⟨#[]⟩]) (VB.drew (VB.new' (by simp))) (pC p) rfl)
     have HQQ:=Lib.hid (show VB (((wr.alloc (.cells #[.int .u64 0,.string ⟨#[]⟩,.bool false,.int .u64 0,.string ⟨#[]⟩,.int .u64 0,.string ⟨#[]⟩,.bool false,.int .u64 0,.string ⟨#[]⟩] 64)).alloc (.cells #[.int .u64 0,.string ⟨#[]⟩,.bool false,.int .u64 0,.string ⟨#[]⟩,.int .u64 0,.string ⟨#[]⟩,.bool false,.int .u64 0,.string ⟨#[]⟩] 64)).drew.setCells (wr.heap.size+1) 0 [.int .u64 (lowN (sz p.x.num)),.string (bigS (sz p.x.num)),.bool (ng p.x.num),.int .u64 (lowN (fm p.x)),.string (bigS (fm p.x)),.int .u64 (lowN (sz p.y.num)),.string (bigS (sz p.y.num)),.bool (ng p.y.num),.int .u64 (lowN (fm p.y)),.string (bigS (fm p.y))]) (wr.heap.size) [.int .u64 0,.string ⟨#[]⟩,.bool false,.int .u64 0,.string ⟨#[]⟩,.int .u64 0,.string ⟨#[]⟩,.bool false,.int .u64 0,.string ⟨#[]⟩]from VB.fars (by omega) _ _ (VB.drew (VB.alloc (VB.new' (w:=wr) rfl) _)))
     have HGG:=Lib.hid (show Gr wr.heap.size wr (((wr.alloc (.cells #[.int .u64 0,.string ⟨#[]⟩,.bool false,.int .u64 0,.string ⟨#[]⟩,.int .u64 0,.string ⟨#[]⟩,.bool false,.int .u64 0,.string ⟨#[]⟩] 64)).alloc (.cells #[.int .u64 0,.string ⟨#[]⟩,.bool false,.int .u64 0,.string ⟨#[]⟩,.int .u64 0,.string ⟨#[]⟩,.bool false,.int .u64 0,.string ⟨#[]⟩] 64)).drew.setCells (wr.heap.size+1) 0 [.int .u64 (lowN (sz p.x.num)),.string (bigS (sz p.x.num)),.bool (ng p.x.num),.int .u64 (lowN (fm p.x)),.string (bigS (fm p.x)),.int .u64 (lowN (sz p.y.num)),.string (bigS (sz p.y.num)),.bool (ng p.y.num),.int .u64 (lowN (fm p.y)),.string (bigS (fm p.y))])from Gr.sets (by omega) _ _ (by exact gzz))
     generalize (((wr.alloc (.cells #[.int .u64 0,.string ⟨#[]⟩,.bool false,.int .u64 0,.string ⟨#[]⟩,.int .u64 0,.string ⟨#[]⟩,.bool false,.int .u64 0,.string ⟨#[]⟩] 64)).alloc (.cells #[.int .u64 0,.string ⟨#[]⟩,.bool false,.int .u64 0,.string ⟨#[]⟩,.int .u64 0,.string ⟨#[]⟩,.bool false,.int .u64 0,.string ⟨#[]⟩] 64)).drew.setCells (wr.heap.size+1) 0 [.int .u64 (lowN (sz p.x.num)),.string (bigS (sz p.x.num)),.bool (ng p.x.num),.int .u64 (lowN (fm p.x)),.string (bigS (fm p.x)),.int .u64 (lowN (sz p.y.num)),.string (bigS (sz p.y.num)),.bool (ng p.y.num),.int .u64 (lowN (fm p.y)),.string (bigS (fm p.y))])=wq at *
     refine wpAnyH_ready (rs:= [11]) (by kernel_rfl) (by simp) ?_
     refine AllReadyH.cons (o:=⟨none,_,_,_,_,_⟩) rfl (fun K hK=>?_) AllReadyH.nil
     rw [if_pos (by rfl)]
     refine wp_store_mid 64 _ _ rfl (wr.heap.size) 0 (List.toArray [.int .u64 (lowN (sz q.x.num)),.string (bigS (sz q.x.num)),.bool (ng q.x.num),.int .u64 (lowN (fm q.x)),.string (bigS (fm q.x)),.int .u64 (lowN (sz q.y.num)),.string (bigS (sz q.y.num)),.bool (ng q.y.num),.int .u64 (lowN (fm q.y)),.string (bigS (fm q.y))]) rfl rfl (VB.there (cs:= [.int .u64 0,.string ⟨#[]⟩,.bool false,.int .u64 0,.string ⟨#[]⟩,.int .u64 0,.string ⟨#[]⟩,.bool false,.int .u64 0,.string ⟨#[]⟩]) ?_) info_Point (by first|rfl|simp [Value.oneCell']) ?_
     ·exact HQQ.out
     simp only [pS]
     refine hK.out _ _ ?_ (fun hQ4=>?_)
     ·have hh:=hQ3;(try dsimp only at hh ⊢);simp only [cell_sets_ne (show w.heap.size≠wr.heap.size by omega)];exact hh
     clear hK K hQ3
     refine wpAnyH_done (by kernel_rfl) ?_ _
     go_wp2_with fail
     go_meet
     refine⟨wr.heap.size+1,wr.heap.size,rfl,rfl,⟨?_,?_,?_⟩⟩
     ·exact VB.fars (by omega) _ _ HPP.out
     ·exact VB.set (cs:= [.int .u64 0,.string ⟨#[]⟩,.bool false,.int .u64 0,.string ⟨#[]⟩,.int .u64 0,.string ⟨#[]⟩,.bool false,.int .u64 0,.string ⟨#[]⟩]) HQQ.out (pC q) rfl
     ·exact Gr.sets (by omega) _ _ HGG.out
   case rest=>
    obtain ⟨wb,hwb⟩:∃x,x=wc:=⟨_,rfl⟩
    subst hwb
    obtain ⟨gp,gq,rfl,rfl,hB⟩:=hcut
    have hp1:=hB.p.lt
    have hq1:=hB.q.lt
    have HGx:=Lib.hid hB.gr
    have HBP:=Lib.hid hB.p
    have HBQ:=Lib.hid hB.q
    have hsx:=hB.gr.size
    clear hB a0 a1 a2 a3 a4 a5 a6 a7 a8 a9 b0 b1 b2 b3 b4 b5 b6 b7 b8 b9
    go_wp2_with fail
    refine(contains_Pt (p:=fun r=>decide (0<turn p q r)) [d,e,f] _ 0 197 _ (SR.three (HV2.out.gr HGx.out h1) (HX.out.gr HGx.out h1)) ⟨fun _ _=>rfl,fun W hW x hx=>?_⟩).mono ?_
    ·exact ms_beyond1 p q x gp gq W (HBP.out.gr hW hp1) (HBQ.out.gr hW hq1) hhp.out hhq.out (H.out x hx)
    rintro ee w2 ⟨rfl,hg2⟩
    have HG2:=Lib.hid hg2
    have hsz2:=hg2.size
    clear hg2
    obtain ⟨an,han⟩:∃x,([d,e,f].any fun r=>decide (0<turn p q r))=x:=⟨_,rfl⟩
    rw [han]
    have HAN:=Lib.hid (show rightP p q [d,e,f]= !an from by unfold rightP;rw [han])
    clear han
    cases an
    ·have hrt:r0=true:=by rw [←hr0.out];exact beyP_true hk3 (by rw [HPQ.out.1,HK2.out,HPQ.out.2,HAN.out];rfl)
     subst hrt
     go_wp2
     go_ret
     exact⟨rfl,(HG0.out.trans (HGx.out.mono (by omega))).trans (HG2.out.mono (by omega))⟩
    ·go_wp2
     go_roundw
     case rel=>
      refine⟨k+1,by omega,by go_num,Lib.hid (fun j hj=>?_),Lib.hid ((HV1.out.gr HGx.out h0).gr HG2.out (by omega)),Lib.hid ((HV2.out.gr HGx.out h1).gr HG2.out (by omega)),Lib.hid ((HX.out.gr HGx.out h1).gr HG2.out (by omega)),Lib.hid ((HG0.out.trans (HGx.out.mono (by omega))).trans (HG2.out.mono (by omega)))⟩
      rcases Nat.lt_succ_iff_lt_or_eq.1 hj with hj|rfl
      ·exact HJ.out j hj
      ·rw [HPQ.out.1,HK2.out,HPQ.out.2,HAN.out];rfl
     case measure=>simp [intOf];omega
  ·have hk0:k=3:=by omega
   subst hk0
   have hrf:r0=false:=by rw [←hr0.out];exact beyP_false HJ.out
   subst hrf
   go_wp2
   go_ret
   exact⟨rfl,HG0.out⟩
end Go.Proofs.YtfgmdhjmgdccdaaGreat
