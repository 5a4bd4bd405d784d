/-
  Part 21 of the proof: BeyG.
-/
import Derived.Test.YtfgmdhjmgdccdaaGreatJ16
import Derived.Test.YtfgmdhjmgdccdaaGreatJ19
set_option linter.unusedSimpArgs false
set_option linter.unusedVariables false
set_option maxHeartbeats 8000000
namespace Go.Proofs.YtfgmdhjmgdccdaaGreat
open Go.RowKit Gus
def rightP (p q:Pt) (l:List Pt):Bool:= !(l.any fun r=>decide (0<turn p q r))
def beyP (a b c:Pt) (l:List Pt):Bool:=rightP a b l || rightP b c l || rightP c a l
def nth3 (a b c:Pt):Nat→Pt
 | 0=>a
 | 1=>b
 | _=>c
theorem nth3_at (a b c:Pt) {k:Nat} (h:k<3): [a,b,c][k]=nth3 a b c k:=by
 rcases(show k=0∨k=1∨k=2 by omega)with rfl|rfl|rfl<;>rfl
theorem nth3_hp {a b c:Pt} {n:Nat} (ha:hp a≤n) (hb:hp b≤n) (hc:hp c≤n) (k:Nat):hp (nth3 a b c k)≤n:=by
 unfold nth3;split<;>assumption
theorem beyP_true {a b c:Pt} {l:List Pt} {k:Nat} (hk:k<3) (h:rightP (nth3 a b c k) (nth3 a b c ((k+1) % 3)) l=true):beyP a b c l=true:=by
 unfold beyP
 rcases(show k=0∨k=1∨k=2 by omega)with rfl|rfl|rfl<;>simp [nth3]at h<;>simp [h]
theorem beyP_false {a b c:Pt} {l:List Pt} (h:∀j,j<3→rightP (nth3 a b c j) (nth3 a b c ((j+1) % 3)) l=false):beyP a b c l=false:=by
 unfold beyP
 have h0:=h 0 (by omega);have h1:=h 1 (by omega);have h2:=h 2 (by omega)
 simp [nth3]at h0 h1 h2
 simp [h0,h1,h2]
theorem tmod3 {k:Nat} (h:k<3):((k:Int)+1).tmod 3=(((k+1) % 3:Nat):Int):=by
 rcases(show k=0∨k=1∨k=2 by omega)with rfl|rfl|rfl<;>decide
theorem c3_rc {w:World} {g:Nat} {a b c:Pt} (h:VB w g (c3C a b c)):RC pC 10 w g [a,b,c]:=RC.of_flat pC_len fun i u hu=>h.c i u hu
set_option maxRecDepth 20000 in
theorem ms_beyondG (a b c d e f:Pt) (w:World) (ha:hp a≤1000000000) (hb:hp b≤1000000000) (hc:hp c≤1000000000) (h:∀r∈ [d,e,f],hp r≤1000000000):
  Calls Tryz.prog 138 #[c3V a b c,c3V d e f] w (Ret w (.bool (beyP a b c [d,e,f]))):=by
 have HA:=Lh (nth3_hp ha hb hc)
 have H:=Lh h
 clear h ha hb hc
 obtain ⟨r0,hr0⟩:∃r,beyP a b c [d,e,f]=r:=⟨_,rfl⟩
 rw [hr0]
 replace hr0:=Lh hr0
 go_enter Tryz.func138,Tryz.ntmps138
 go_wp2
 have HV1:=Lh (show VB ((w.alloc (.cells #[vA a.x,vB a.x,vC a.x,vD a.x,vE a.x,vA a.y,vB a.y,vC a.y,vD a.y,vE a.y,vA b.x,vB b.x,vC b.x,vD b.x,vE b.x,vA b.y,vB b.y,vC b.y,vD b.y,vE b.y,vA c.x,vB c.x,vC c.x,vD c.x,vE c.x,vA c.y,vB c.y,vC c.y,vD c.y,vE c.y] 197)).alloc (.cells #[vA d.x,vB d.x,vC d.x,vD d.x,vE d.x,vA d.y,vB d.y,vC d.y,vD d.y,vE d.y,vA e.x,vB e.x,vC e.x,vD e.x,vE e.x,vA e.y,vB e.y,vC e.y,vD e.y,vE e.y,vA f.x,vB f.x,vC f.x,vD f.x,vE f.x,vA f.y,vB f.y,vC f.y,vD f.y,vE f.y] 197)) w.heap.size (c3C a b c)from by exact vbb)
 have HV2:=Lh (show VB ((w.alloc (.cells #[vA a.x,vB a.x,vC a.x,vD a.x,vE a.x,vA a.y,vB a.y,vC a.y,vD a.y,vE a.y,vA b.x,vB b.x,vC b.x,vD b.x,vE b.x,vA b.y,vB b.y,vC b.y,vD b.y,vE b.y,vA c.x,vB c.x,vC c.x,vD c.x,vE c.x,vA c.y,vB c.y,vC c.y,vD c.y,vE c.y] 197)).alloc (.cells #[vA d.x,vB d.x,vC d.x,vD d.x,vE d.x,vA d.y,vB d.y,vC d.y,vD d.y,vE d.y,vA e.x,vB e.x,vC e.x,vD e.x,vE e.x,vA e.y,vB e.y,vC e.y,vD e.y,vE e.y,vA f.x,vB f.x,vC f.x,vD f.x,vE f.x,vA f.y,vB f.y,vC f.y,vD f.y,vE f.y] 197)) (w.heap.size+1) (c3C d e f)from by exact vbb)
 have HX:=Lh (show Shx ((w.alloc (.cells #[vA a.x,vB a.x,vC a.x,vD a.x,vE a.x,vA a.y,vB a.y,vC a.y,vD a.y,vE a.y,vA b.x,vB b.x,vC b.x,vD b.x,vE b.x,vA b.y,vB b.y,vC b.y,vD b.y,vE b.y,vA c.x,vB c.x,vC c.x,vD c.x,vE c.x,vA c.y,vB c.y,vC c.y,vD c.y,vE c.y] 197)).alloc (.cells #[vA d.x,vB d.x,vC d.x,vD d.x,vE d.x,vA d.y,vB d.y,vC d.y,vD d.y,vE d.y,vA e.x,vB e.x,vC e.x,vD e.x,vE e.x,vA e.y,vB e.y,vC e.y,vD e.y,vE e.y,vA f.x,vB f.x,vC f.x,vD f.x,vE f.x,vA f.y,vB f.y,vC f.y,vD f.y,vE f.y] 197)) (w.heap.size+1) 197 from by
  have h:=Shx.new (w.alloc (.cells #[vA a.x,vB a.x,vC a.x,vD a.x,vE a.x,vA a.y,vB a.y,vC a.y,vD a.y,vE a.y,vA b.x,vB b.x,vC b.x,vD b.x,vE b.x,vA b.y,vB b.y,vC b.y,vD b.y,vE b.y,vA c.x,vB c.x,vC c.x,vD c.x,vE c.x,vA c.y,vB c.y,vC c.y,vD c.y,vE c.y] 197)) #[vA d.x,vB d.x,vC d.x,vD d.x,vE d.x,vA d.y,vB d.y,vC d.y,vD d.y,vE d.y,vA e.x,vB e.x,vC e.x,vD e.x,vE e.x,vA e.y,vB e.y,vC e.y,vD e.y,vE e.y,vA f.x,vB f.x,vC f.x,vD f.x,vE f.x,vA f.y,vB f.y,vC f.y,vD f.y,vE f.y] 197
  simpa using h)
 have HG0:=Lh (show Gr w.heap.size w ((w.alloc (.cells #[vA a.x,vB a.x,vC a.x,vD a.x,vE a.x,vA a.y,vB a.y,vC a.y,vD a.y,vE a.y,vA b.x,vB b.x,vC b.x,vD b.x,vE b.x,vA b.y,vB b.y,vC b.y,vD b.y,vE b.y,vA c.x,vB c.x,vC c.x,vD c.x,vE c.x,vA c.y,vB c.y,vC c.y,vD c.y,vE c.y] 197)).alloc (.cells #[vA d.x,vB d.x,vC d.x,vD d.x,vE d.x,vA d.y,vB d.y,vC d.y,vD d.y,vE d.y,vA e.x,vB e.x,vC e.x,vD e.x,vE e.x,vA e.y,vB e.y,vC e.y,vD e.y,vE e.y,vA f.x,vB f.x,vC f.x,vD f.x,vE f.x,vA f.y,vB f.y,vC f.y,vD f.y,vE f.y] 197))from by exact gzz)
 generalize (w.alloc (.cells #[vA a.x,vB a.x,vC a.x,vD a.x,vE a.x,vA a.y,vB a.y,vC a.y,vD a.y,vE a.y,vA b.x,vB b.x,vC b.x,vD b.x,vE b.x,vA b.y,vB b.y,vC b.y,vD b.y,vE b.y,vA c.x,vB c.x,vC c.x,vD c.x,vE c.x,vA c.y,vB c.y,vC c.y,vD c.y,vE c.y] 197)).alloc (.cells #[vA d.x,vB d.x,vC d.x,vD d.x,vE d.x,vA d.y,vB d.y,vC d.y,vD d.y,vE d.y,vA e.x,vB e.x,vC e.x,vD e.x,vE e.x,vA e.y,vB e.y,vC e.y,vD e.y,vE e.y,vA f.x,vB f.x,vC f.x,vD f.x,vE f.x,vA f.y,vB f.y,vC f.y,vD f.y,vE f.y] 197)=w0 at *
 go_loopw [8] (fun s wr=> ∃k:Nat,k≤3∧s= .int .i64 k∧Hid (∀j,j<k→rightP (nth3 a b c j) (nth3 a b c ((j+1) % 3)) [d,e,f]=false)∧Hid (VB wr w.heap.size (c3C a b c))∧Hid (VB wr (w.heap.size+1) (c3C d e f))∧Hid (Shx wr (w.heap.size+1) 197)∧Hid (Gr w.heap.size w wr)) (fun s _=>3 - (intOf s).toNat)
 case atStart=>exact⟨0,by omega,rfl,Lh (fun j hj=>absurd hj (by omega)),HV1,HV2,HX,HG0⟩
 case round=>
  clear HV1 HV2 HX HG0
  obtain ⟨k,hk,rfl,HJ,HV1,HV2,HX,HG0⟩:=hrel
  have h0:=HV1.out.lt
  have h1:=HV2.out.lt
  by_cases hk3:k<3
  ·have hw1:IntKind.i64.wrap ((k:Int)+1)=(k:Int)+1:=wrap64_id (by omega) (by omega)
   have hw2:=tmod3 hk3
   obtain ⟨k2,hk2⟩:∃x,(k+1) % 3=x:=⟨_,rfl⟩
   have hk23:k2<3:=by omega
   rw [hk2]at hw2
   have HK2:=Lh hk2
   clear hk2
   have hw3:IntKind.i64.wrap (k2:Int)=(k2:Int):=wrap64_id (by omega) (by omega)
   have hb0:(k:Int)<3:=by omega
   have hb1:(k2:Int)<3:=by omega
   obtain ⟨p,hp'⟩:∃p,nth3 a b c k=p:=⟨_,rfl⟩
   obtain ⟨q,hq'⟩:∃q,nth3 a b c k2=q:=⟨_,rfl⟩
   obtain ⟨a0,a1,a2,a3,a4,a5,a6,a7,a8,a9⟩:=(c3_rc HV1.out).fPt (j:=k) (by simp;omega) ((nth3_at a b c hk3).trans hp')
   obtain ⟨b0,b1,b2,b3,b4,b5,b6,b7,b8,b9⟩:=(c3_rc HV1.out).fPt (j:=k2) (by simp;omega) ((nth3_at a b c hk23).trans hq')
   have HPQ:=Lh (And.intro hp' hq')
   have hhp:=HA.out k
   have hhq:=HA.out k2
   rw [hp']at hhp
   rw [hq']at hhq
   replace hhp:=Lh hhp
   replace hhq:=Lh hhq
   clear hp' hq'
   go_upto_region 4 with fail
   go_cut [6,7] (fun x y wx=> ∃gp gq,x= .pointer (some ⟨gp,0,none⟩)∧y= .pointer (some ⟨gq,0,none⟩)∧BeyS w wr wx gp gq p q)
   case first=>
    refine wp_region_held_drew (S:=(fun w'=>w'.cell? ⟨w.heap.size,k*10,none⟩=some (vA p.x)∧w'.cell? ⟨w.heap.size,k*10+1,none⟩=some (vB p.x)∧w'.cell? ⟨w.heap.size,k*10+2,none⟩=some (vC p.x)∧w'.cell? ⟨w.heap.size,k*10+3,none⟩=some (vD p.x)∧w'.cell? ⟨w.heap.size,k*10+4,none⟩=some (vE p.x)∧w'.cell? ⟨w.heap.size,k*10+5,none⟩=some (vA p.y)∧w'.cell? ⟨w.heap.size,k*10+6,none⟩=some (vB p.y)∧w'.cell? ⟨w.heap.size,k*10+7,none⟩=some (vC p.y)∧w'.cell? ⟨w.heap.size,k*10+8,none⟩=some (vD p.y)∧w'.cell? ⟨w.heap.size,k*10+9,none⟩=some (vE p.y)∧w'.cell? ⟨w.heap.size,k2*10,none⟩=some (vA q.x)∧w'.cell? ⟨w.heap.size,k2*10+1,none⟩=some (vB q.x)∧w'.cell? ⟨w.heap.size,k2*10+2,none⟩=some (vC q.x)∧w'.cell? ⟨w.heap.size,k2*10+3,none⟩=some (vD q.x)∧w'.cell? ⟨w.heap.size,k2*10+4,none⟩=some (vE q.x)∧w'.cell? ⟨w.heap.size,k2*10+5,none⟩=some (vA q.y)∧w'.cell? ⟨w.heap.size,k2*10+6,none⟩=some (vB q.y)∧w'.cell? ⟨w.heap.size,k2*10+7,none⟩=some (vC q.y)∧w'.cell? ⟨w.heap.size,k2*10+8,none⟩=some (vD q.y)∧w'.cell? ⟨w.heap.size,k2*10+9,none⟩=some (vE q.y))) (by kernel_rfl) ?_ (fun hHeld=>?_)
    ·simp [go_sem, *]
    refine tq 0 11 (.int .i64 (k:Int)) ?_
    refine tq 1 12 (.pointer (some ⟨w.heap.size,k*10,none⟩)) ?_
    refine tq 2 13 (pV p) ?_
    refine tq 3 14 (.int .i64 (k:Int)) ?_
    refine tq 4 15 (.int .i64 ((k:Int)+1)) ?_
    refine tq 5 16 (.int .i64 (k2:Int)) ?_
    refine tq 6 17 (.pointer (some ⟨w.heap.size,k2*10,none⟩)) ?_
    refine tq 7 18 (pV q) ?_
    refine rdZ 8 9 (fun K hK=>?_) (fun K hK=>?_)
    ·go_simp
     refine kO hK fun hQ1=>?_
     clear hK K hHeld
     refine rd 9 (fun K hK=>?_)
     go_simp
     refine kO hK fun hQ2=>?_
     clear hK K hQ1
     refine wpAnyH_ready (rs:= [10]) (by kernel_rfl) (by simp) ?_
     refine AllReadyH.cons (o:=⟨none,_,_,_,_,_⟩) rfl (fun K hK=>?_) AllReadyH.nil
     rw [if_pos (by rfl)]
     refine wp_store_mid 64 _ _ rfl (wr.heap.size) 0 (List.toArray [vA p.x,vB p.x,vC p.x,vD p.x,vE p.x,vA p.y,vB p.y,vC p.y,vD p.y,vE p.y]) rfl rfl (VB.there (cs:= [zU,zS,.bool false,zU,zS,zU,zS,.bool false,zU,zS]) ?_) info_Point (by first|rfl|simp [Value.oneCell']) ?_
     ·exact vbb
     simp only [pS]
     refine hK.out _ _ ?_ (fun hQ3=>?_)
     ·have hh:=hQ2;(try dsimp only at hh ⊢);simp only [cell_sets_ne (show w.heap.size≠wr.heap.size by omega)];exact hh
     clear hK K hQ2
     have HPP:=Lh (show VB (((wr.alloc (.cells #[zU,zS,.bool false,zU,zS,zU,zS,.bool false,zU,zS] 64)).alloc (.cells #[zU,zS,.bool false,zU,zS,zU,zS,.bool false,zU,zS] 64)).drew.setCells (wr.heap.size) 0 [vA p.x,vB p.x,vC p.x,vD p.x,vE p.x,vA p.y,vB p.y,vC p.y,vD p.y,vE p.y]) (wr.heap.size) (pC p)from VB.set (cs:= [zU,zS,.bool false,zU,zS,zU,zS,.bool false,zU,zS]) (VB.drew (VB.alloc (VB.new' (w:=wr) rfl) _)) (pC p) rfl)
     have HQQ:=Lh (show VB (((wr.alloc (.cells #[zU,zS,.bool false,zU,zS,zU,zS,.bool false,zU,zS] 64)).alloc (.cells #[zU,zS,.bool false,zU,zS,zU,zS,.bool false,zU,zS] 64)).drew.setCells (wr.heap.size) 0 [vA p.x,vB p.x,vC p.x,vD p.x,vE p.x,vA p.y,vB p.y,vC p.y,vD p.y,vE p.y]) (wr.heap.size+1) [zU,zS,.bool false,zU,zS,zU,zS,.bool false,zU,zS]from VB.fars (by omega) _ _ (VB.drew (VB.new' (by simp))))
     have HGG:=Lh (show Gr wr.heap.size wr (((wr.alloc (.cells #[zU,zS,.bool false,zU,zS,zU,zS,.bool false,zU,zS] 64)).alloc (.cells #[zU,zS,.bool false,zU,zS,zU,zS,.bool false,zU,zS] 64)).drew.setCells (wr.heap.size) 0 [vA p.x,vB p.x,vC p.x,vD p.x,vE p.x,vA p.y,vB p.y,vC p.y,vD p.y,vE p.y])from Gr.sets (by omega) _ _ (by exact gzz))
     generalize (((wr.alloc (.cells #[zU,zS,.bool false,zU,zS,zU,zS,.bool false,zU,zS] 64)).alloc (.cells #[zU,zS,.bool false,zU,zS,zU,zS,.bool false,zU,zS] 64)).drew.setCells (wr.heap.size) 0 [vA p.x,vB p.x,vC p.x,vD p.x,vE p.x,vA p.y,vB p.y,vC p.y,vD p.y,vE p.y])=wq at *
     refine wpAnyH_ready (rs:= [11]) (by kernel_rfl) (by simp) ?_
     refine AllReadyH.cons (o:=⟨none,_,_,_,_,_⟩) rfl (fun K hK=>?_) AllReadyH.nil
     rw [if_pos (by rfl)]
     refine wp_store_mid 64 _ _ rfl (wr.heap.size+1) 0 (List.toArray [vA q.x,vB q.x,vC q.x,vD q.x,vE q.x,vA q.y,vB q.y,vC q.y,vD q.y,vE q.y]) rfl rfl (VB.there (cs:= [zU,zS,.bool false,zU,zS,zU,zS,.bool false,zU,zS]) ?_) info_Point (by first|rfl|simp [Value.oneCell']) ?_
     ·exact HQQ.out
     simp only [pS]
     refine hK.out _ _ ?_ (fun hQ4=>?_)
     ·have hh:=hQ3;(try dsimp only at hh ⊢);simp only [cell_sets_ne (show w.heap.size≠wr.heap.size+1 by omega)];exact hh
     clear hK K hQ3
     refine wpAnyH_done (by kernel_rfl) ?_ _
     go_wp2_with fail
     go_meet
     refine⟨wr.heap.size,wr.heap.size+1,rfl,rfl,⟨?_,?_,?_⟩⟩
     ·exact VB.fars (by omega) _ _ HPP.out
     ·exact VB.set (cs:= [zU,zS,.bool false,zU,zS,zU,zS,.bool false,zU,zS]) HQQ.out (pC q) rfl
     ·exact Gr.sets (by omega) _ _ HGG.out
    ·go_simp
     refine kO hK fun hQ1=>?_
     clear hK K hHeld
     refine rd 8 (fun K hK=>?_)
     go_simp
     refine kO hK fun hQ2=>?_
     clear hK K hQ1
     refine wpAnyH_ready (rs:= [10]) (by kernel_rfl) (by simp) ?_
     refine AllReadyH.cons (o:=⟨none,_,_,_,_,_⟩) rfl (fun K hK=>?_) AllReadyH.nil
     rw [if_pos (by rfl)]
     refine wp_store_mid 64 _ _ rfl (wr.heap.size+1) 0 (List.toArray [vA p.x,vB p.x,vC p.x,vD p.x,vE p.x,vA p.y,vB p.y,vC p.y,vD p.y,vE p.y]) rfl rfl (VB.there (cs:= [zU,zS,.bool false,zU,zS,zU,zS,.bool false,zU,zS]) ?_) info_Point (by first|rfl|simp [Value.oneCell']) ?_
     ·exact vbb
     simp only [pS]
     refine hK.out _ _ ?_ (fun hQ3=>?_)
     ·have hh:=hQ2;(try dsimp only at hh ⊢);simp only [cell_sets_ne (show w.heap.size≠wr.heap.size+1 by omega)];exact hh
     clear hK K hQ2
     have HPP:=Lh (show VB (((wr.alloc (.cells #[zU,zS,.bool false,zU,zS,zU,zS,.bool false,zU,zS] 64)).alloc (.cells #[zU,zS,.bool false,zU,zS,zU,zS,.bool false,zU,zS] 64)).drew.setCells (wr.heap.size+1) 0 [vA p.x,vB p.x,vC p.x,vD p.x,vE p.x,vA p.y,vB p.y,vC p.y,vD p.y,vE p.y]) (wr.heap.size+1) (pC p)from VB.set (cs:= [zU,zS,.bool false,zU,zS,zU,zS,.bool false,zU,zS]) (VB.drew (VB.new' (by simp))) (pC p) rfl)
     have HQQ:=Lh (show VB (((wr.alloc (.cells #[zU,zS,.bool false,zU,zS,zU,zS,.bool false,zU,zS] 64)).alloc (.cells #[zU,zS,.bool false,zU,zS,zU,zS,.bool false,zU,zS] 64)).drew.setCells (wr.heap.size+1) 0 [vA p.x,vB p.x,vC p.x,vD p.x,vE p.x,vA p.y,vB p.y,vC p.y,vD p.y,vE p.y]) (wr.heap.size) [zU,zS,.bool false,zU,zS,zU,zS,.bool false,zU,zS]from VB.fars (by omega) _ _ (VB.drew (VB.alloc (VB.new' (w:=wr) rfl) _)))
     have HGG:=Lh (show Gr wr.heap.size wr (((wr.alloc (.cells #[zU,zS,.bool false,zU,zS,zU,zS,.bool false,zU,zS] 64)).alloc (.cells #[zU,zS,.bool false,zU,zS,zU,zS,.bool false,zU,zS] 64)).drew.setCells (wr.heap.size+1) 0 [vA p.x,vB p.x,vC p.x,vD p.x,vE p.x,vA p.y,vB p.y,vC p.y,vD p.y,vE p.y])from Gr.sets (by omega) _ _ (by exact gzz))
     generalize (((wr.alloc (.cells #[zU,zS,.bool false,zU,zS,zU,zS,.bool false,zU,zS] 64)).alloc (.cells #[zU,zS,.bool false,zU,zS,zU,zS,.bool false,zU,zS] 64)).drew.setCells (wr.heap.size+1) 0 [vA p.x,vB p.x,vC p.x,vD p.x,vE p.x,vA p.y,vB p.y,vC p.y,vD p.y,vE p.y])=wq at *
     refine wpAnyH_ready (rs:= [11]) (by kernel_rfl) (by simp) ?_
     refine AllReadyH.cons (o:=⟨none,_,_,_,_,_⟩) rfl (fun K hK=>?_) AllReadyH.nil
     rw [if_pos (by rfl)]
     refine wp_store_mid 64 _ _ rfl (wr.heap.size) 0 (List.toArray [vA q.x,vB q.x,vC q.x,vD q.x,vE q.x,vA q.y,vB q.y,vC q.y,vD q.y,vE q.y]) rfl rfl (VB.there (cs:= [zU,zS,.bool false,zU,zS,zU,zS,.bool false,zU,zS]) ?_) info_Point (by first|rfl|simp [Value.oneCell']) ?_
     ·exact HQQ.out
     simp only [pS]
     refine hK.out _ _ ?_ (fun hQ4=>?_)
     ·have hh:=hQ3;(try dsimp only at hh ⊢);simp only [cell_sets_ne (show w.heap.size≠wr.heap.size by omega)];exact hh
     clear hK K hQ3
     refine wpAnyH_done (by kernel_rfl) ?_ _
     go_wp2_with fail
     go_meet
     refine⟨wr.heap.size+1,wr.heap.size,rfl,rfl,⟨?_,?_,?_⟩⟩
     ·exact VB.fars (by omega) _ _ HPP.out
     ·exact VB.set (cs:= [zU,zS,.bool false,zU,zS,zU,zS,.bool false,zU,zS]) HQQ.out (pC q) rfl
     ·exact Gr.sets (by omega) _ _ HGG.out
   case rest=>
    obtain ⟨wb,hwb⟩:∃x,x=wc:=⟨_,rfl⟩
    subst hwb
    obtain ⟨gp,gq,rfl,rfl,hB⟩:=hcut
    have hp1:=hB.p.lt
    have hq1:=hB.q.lt
    have HGx:=Lh hB.gr
    have HBP:=Lh hB.p
    have HBQ:=Lh hB.q
    have hsx:=hB.gr.size
    clear hB a0 a1 a2 a3 a4 a5 a6 a7 a8 a9 b0 b1 b2 b3 b4 b5 b6 b7 b8 b9
    go_wp2_with fail
    refine(contains_Pt (p:=fun r=>decide (0<turn p q r)) [d,e,f] _ 0 197 _ (SR.three (HV2.out.gr HGx.out h1) (HX.out.gr HGx.out h1)) ⟨fun _ _=>rfl,fun W hW x hx=>?_⟩).mono ?_
    ·exact ms_beyond1 p q x gp gq W (HBP.out.gr hW hp1) (HBQ.out.gr hW hq1) hhp.out hhq.out (H.out x hx)
    rintro ee w2 ⟨rfl,hg2⟩
    have HG2:=Lh hg2
    have hsz2:=hg2.size
    clear hg2
    obtain ⟨an,han⟩:∃x,([d,e,f].any fun r=>decide (0<turn p q r))=x:=⟨_,rfl⟩
    rw [han]
    have HAN:=Lh (show rightP p q [d,e,f]= !an from by unfold rightP;rw [han])
    clear han
    cases an
    ·have hrt:r0=true:=by rw [←hr0.out];exact beyP_true hk3 (by rw [HPQ.out.1,HK2.out,HPQ.out.2,HAN.out];rfl)
     subst hrt
     go_wp2
     go_ret
     exact⟨rfl,(HG0.out.trans (HGx.out.mono (by omega))).trans (HG2.out.mono (by omega))⟩
    ·go_wp2
     go_roundw
     case rel=>
      refine⟨k+1,by omega,by go_num,Lh (fun j hj=>?_),Lh ((HV1.out.gr HGx.out h0).gr HG2.out (by omega)),Lh ((HV2.out.gr HGx.out h1).gr HG2.out (by omega)),Lh ((HX.out.gr HGx.out h1).gr HG2.out (by omega)),Lh ((HG0.out.trans (HGx.out.mono (by omega))).trans (HG2.out.mono (by omega)))⟩
      rcases Nat.lt_succ_iff_lt_or_eq.1 hj with hj|rfl
      ·exact HJ.out j hj
      ·rw [HPQ.out.1,HK2.out,HPQ.out.2,HAN.out];rfl
     case measure=>simp [intOf];omega
  ·have hk0:k=3:=by omega
   subst hk0
   have hrf:r0=false:=by rw [←hr0.out];exact beyP_false HJ.out
   subst hrf
   go_wp2
   go_ret
   exact⟨rfl,HG0.out⟩
end Go.Proofs.YtfgmdhjmgdccdaaGreat
