/-
  Part 14 of the proof: MeshC Clip.
-/
import Derived.Test.YtjijceliboaeaaaGreatDoorJ13
set_option linter.unusedSimpArgs false
set_option linter.unusedVariables false
namespace Go.Proofs.YtjijceliboaeaaaGreatDoor
open Go.RowKit Gus
abbrev c3C (a b c:Pt):List Value:= [.int .u64 (lowN (sz a.x.num)),.string (bigS (sz a.x.num)),.bool (ng a.x.num),.int .u64 (lowN (fm a.x)),.string (bigS (fm a.x)),.int .u64 (lowN (sz a.y.num)),.string (bigS (sz a.y.num)),.bool (ng a.y.num),.int .u64 (lowN (fm a.y)),.string (bigS (fm a.y)),.int .u64 (lowN (sz b.x.num)),.string (bigS (sz b.x.num)),.bool (ng b.x.num),.int .u64 (lowN (fm b.x)),.string (bigS (fm b.x)),.int .u64 (lowN (sz b.y.num)),.string (bigS (sz b.y.num)),.bool (ng b.y.num),.int .u64 (lowN (fm b.y)),.string (bigS (fm b.y)),.int .u64 (lowN (sz c.x.num)),.string (bigS (sz c.x.num)),.bool (ng c.x.num),.int .u64 (lowN (fm c.x)),.string (bigS (fm c.x)),.int .u64 (lowN (sz c.y.num)),.string (bigS (sz c.y.num)),.bool (ng c.y.num),.int .u64 (lowN (fm c.y)),.string (bigS (fm c.y))]
abbrev c3V (a b c:Pt):Value:= .agg #[.int .u64 (lowN (sz a.x.num)),.string (bigS (sz a.x.num)),.bool (ng a.x.num),.int .u64 (lowN (fm a.x)),.string (bigS (fm a.x)),.int .u64 (lowN (sz a.y.num)),.string (bigS (sz a.y.num)),.bool (ng a.y.num),.int .u64 (lowN (fm a.y)),.string (bigS (fm a.y)),.int .u64 (lowN (sz b.x.num)),.string (bigS (sz b.x.num)),.bool (ng b.x.num),.int .u64 (lowN (fm b.x)),.string (bigS (fm b.x)),.int .u64 (lowN (sz b.y.num)),.string (bigS (sz b.y.num)),.bool (ng b.y.num),.int .u64 (lowN (fm b.y)),.string (bigS (fm b.y)),.int .u64 (lowN (sz c.x.num)),.string (bigS (sz c.x.num)),.bool (ng c.x.num),.int .u64 (lowN (fm c.x)),.string (bigS (fm c.x)),.int .u64 (lowN (sz c.y.num)),.string (bigS (sz c.y.num)),.bool (ng c.y.num),.int .u64 (lowN (fm c.y)),.string (bigS (fm c.y))]
theorem info_P3:(Tryz.prog.info? 137).map (·.size)=some 30:=by kernel_rfl
theorem VB.there {w:World} {g:Nat} {cs:List Value} (h:VB w g cs):w.there g 0 cs.length:=fun j hj=>by
 rw [Nat.zero_add]
 exact⟨by rw [h.c j cs[j] (List.getElem?_eq_getElem hj)];rfl,h.f j hj⟩
theorem cell_sets_ne {b g:Nat} (h:g≠b) (vs:List Value) (o i:Nat) (w:World):(w.setCells b o vs).cell? ⟨g,i,none⟩=w.cell? ⟨g,i,none⟩:=World.cell?_setCells_out b vs o w ⟨g,i,none⟩ fun e=>absurd e h
set_option maxRecDepth 20000 in
set_option maxHeartbeats 8000000 in
theorem ms_corners (m:Msh) (vp vt vs:Value) (j:Nat) (t:Tri) (a b c:Pt) (w:World) (hM:MS w 0 vp vt vs m) (hlt:j<m.tris.length) (ht:m.tris[j]=t) (g1:t.1<m.pts.length) (g2:t.2.1<m.pts.length) (g3:t.2.2<m.pts.length) (ha:m.pts[t.1]=a) (hb:m.pts[t.2.1]=b) (hcc:m.pts[t.2.2]=c):
  Calls Tryz.prog 68 #[.agg #[vp,vt,vs],.int .i64 (j:Int)] w (Ret w (c3V a b c)):=by
 obtain ⟨hP,hT,hS⟩:=hM
 obtain ⟨as_,cs,rfl⟩:=hS.at
 have l1:=hP.len
 have l2:=hT.len
 have hl1:(m.pts.length:Int)≤9223372036854775807:=by simp only [maxLen]at l1;omega
 have hl2:(m.tris.length:Int)≤9223372036854775807:=by simp only [maxLen]at l2;omega
 obtain ⟨g,ct,rfl,_,_,_,hsh,hR⟩:=hT.block (by intro e;rw [e]at hlt;simp at hlt)
 obtain ⟨gp,cp,rfl,_,_,_,hshp,hRp⟩:=hP.block (by intro e;rw [e]at g1;simp at g1)
 obtain ⟨v0,v1,v2⟩:=hR.fTri hlt ht
 obtain ⟨a0,a1,a2,a3,a4,a5,a6,a7,a8,a9⟩:=hRp.fPt g1 ha
 obtain ⟨c0,c1,c2,c3,c4,c5,c6,c7,c8,c9⟩:=hRp.fPt g2 hb
 obtain ⟨d0,d1,d2,d3,d4,d5,d6,d7,d8,d9⟩:=hRp.fPt g3 hcc
 have hgl:=hsh.lt
 have hgp:=hshp.lt
 have n1:¬gp=w.heap.size:=by omega
 have n2:¬gp=w.heap.size+1:=by omega
 have n3:¬gp=w.heap.size+1+1:=by omega
 have n4:¬g=w.heap.size:=by omega
 have n5:¬g=w.heap.size+1:=by omega
 have k1:gp<w.heap.size+1:=by omega
 have k2:gp<w.heap.size+1+1:=by omega
 have k3:g<w.heap.size+1:=by omega
 have q0:(j:Int)<(m.tris.length:Int):=by omega
 have q1:(t.1:Int)<(m.pts.length:Int):=by omega
 have q2:(t.2.1:Int)<(m.pts.length:Int):=by omega
 have q3:(t.2.2:Int)<(m.pts.length:Int):=by omega
 clear hP hT hS hR hRp hsh hshp ht ha hb hcc hlt g1 g2 g3 l1 l2
 go_enter Tryz.func68,Tryz.ntmps68
 go_wp2
 refine wp_region_held_drew (S:=(fun w'=>w'.cell? ⟨w.heap.size+1+1,0,none⟩=some (.int .i64 (t.1:Int))∧w'.cell? ⟨w.heap.size+1+1,1,none⟩=some (.int .i64 (t.2.1:Int))∧w'.cell? ⟨w.heap.size+1+1,2,none⟩=some (.int .i64 (t.2.2:Int))∧w'.cell? ⟨w.heap.size,0,none⟩=some (.slice (some ⟨gp,0,none⟩) m.pts.length cp)∧w'.cell? ⟨gp,t.1*10,none⟩=some (.int .u64 (lowN (sz a.x.num)))∧w'.cell? ⟨gp,t.1*10+1,none⟩=some (.string (bigS (sz a.x.num)))∧w'.cell? ⟨gp,t.1*10+2,none⟩=some (.bool (ng a.x.num))∧w'.cell? ⟨gp,t.1*10+3,none⟩=some (.int .u64 (lowN (fm a.x)))∧w'.cell? ⟨gp,t.1*10+4,none⟩=some (.string (bigS (fm a.x)))∧w'.cell? ⟨gp,t.1*10+5,none⟩=some (.int .u64 (lowN (sz a.y.num)))∧w'.cell? ⟨gp,t.1*10+6,none⟩=some (.string (bigS (sz a.y.num)))∧w'.cell? ⟨gp,t.1*10+7,none⟩=some (.bool (ng a.y.num))∧w'.cell? ⟨gp,t.1*10+8,none⟩=some (.int .u64 (lowN (fm a.y)))∧w'.cell? ⟨gp,t.1*10+9,none⟩=some (.string (bigS (fm a.y)))∧w'.cell? ⟨gp,t.2.1*10,none⟩=some (.int .u64 (lowN (sz b.x.num)))∧w'.cell? ⟨gp,t.2.1*10+1,none⟩=some (.string (bigS (sz b.x.num)))∧w'.cell? ⟨gp,t.2.1*10+2,none⟩=some (.bool (ng b.x.num))∧w'.cell? ⟨gp,t.2.1*10+3,none⟩=some (.int .u64 (lowN (fm b.x)))∧w'.cell? ⟨gp,t.2.1*10+4,none⟩=some (.string (bigS (fm b.x)))∧w'.cell? ⟨gp,t.2.1*10+5,none⟩=some (.int .u64 (lowN (sz b.y.num)))∧w'.cell? ⟨gp,t.2.1*10+6,none⟩=some (.string (bigS (sz b.y.num)))∧w'.cell? ⟨gp,t.2.1*10+7,none⟩=some (.bool (ng b.y.num))∧w'.cell? ⟨gp,t.2.1*10+8,none⟩=some (.int .u64 (lowN (fm b.y)))∧w'.cell? ⟨gp,t.2.1*10+9,none⟩=some (.string (bigS (fm b.y)))∧w'.cell? ⟨gp,t.2.2*10,none⟩=some (.int .u64 (lowN (sz c.x.num)))∧w'.cell? ⟨gp,t.2.2*10+1,none⟩=some (.string (bigS (sz c.x.num)))∧w'.cell? ⟨gp,t.2.2*10+2,none⟩=some (.bool (ng c.x.num))∧w'.cell? ⟨gp,t.2.2*10+3,none⟩=some (.int .u64 (lowN (fm c.x)))∧w'.cell? ⟨gp,t.2.2*10+4,none⟩=some (.string (bigS (fm c.x)))∧w'.cell? ⟨gp,t.2.2*10+5,none⟩=some (.int .u64 (lowN (sz c.y.num)))∧w'.cell? ⟨gp,t.2.2*10+6,none⟩=some (.string (bigS (sz c.y.num)))∧w'.cell? ⟨gp,t.2.2*10+7,none⟩=some (.bool (ng c.y.num))∧w'.cell? ⟨gp,t.2.2*10+8,none⟩=some (.int .u64 (lowN (fm c.y)))∧w'.cell? ⟨gp,t.2.2*10+9,none⟩=some (.string (bigS (fm c.y))))) (by kernel_rfl) ?_ (fun hHeld=>?_)
 ·simp [go_sem, *]
 refine tk 0 (some 11) (.pointer (some ⟨w.heap.size,0,none⟩)) ?_
 try simp only [pS]
 refine tk 1 (some 12) (.slice (some ⟨gp,0,none⟩) m.pts.length cp) ?_
 try simp only [pS]
 refine tk 2 (some 13) (.pointer (some ⟨w.heap.size+1+1,0,none⟩)) ?_
 try simp only [pS]
 refine tk 3 (some 14) (.int .i64 (t.1:Int)) ?_
 try simp only [pS]
 refine tk 4 (some 15) (.pointer (some ⟨gp,t.1*10,none⟩)) ?_
 try simp only [pS]
 refine tk 5 (some 16) (.agg #[.int .u64 (lowN (sz a.x.num)),.string (bigS (sz a.x.num)),.bool (ng a.x.num),.int .u64 (lowN (fm a.x)),.string (bigS (fm a.x)),.int .u64 (lowN (sz a.y.num)),.string (bigS (sz a.y.num)),.bool (ng a.y.num),.int .u64 (lowN (fm a.y)),.string (bigS (fm a.y))]) ?_
 try simp only [pS]
 refine tk 6 (some 17) (.pointer (some ⟨w.heap.size,0,none⟩)) ?_
 try simp only [pS]
 refine tk 7 (some 18) (.slice (some ⟨gp,0,none⟩) m.pts.length cp) ?_
 try simp only [pS]
 refine tk 8 (some 19) (.pointer (some ⟨w.heap.size+1+1,1,none⟩)) ?_
 try simp only [pS]
 refine tk 9 (some 20) (.int .i64 (t.2.1:Int)) ?_
 try simp only [pS]
 refine tk 10 (some 21) (.pointer (some ⟨gp,t.2.1*10,none⟩)) ?_
 try simp only [pS]
 refine tk 11 (some 22) (.agg #[.int .u64 (lowN (sz b.x.num)),.string (bigS (sz b.x.num)),.bool (ng b.x.num),.int .u64 (lowN (fm b.x)),.string (bigS (fm b.x)),.int .u64 (lowN (sz b.y.num)),.string (bigS (sz b.y.num)),.bool (ng b.y.num),.int .u64 (lowN (fm b.y)),.string (bigS (fm b.y))]) ?_
 try simp only [pS]
 refine tk 12 (some 23) (.pointer (some ⟨w.heap.size,0,none⟩)) ?_
 try simp only [pS]
 refine tk 13 (some 24) (.slice (some ⟨gp,0,none⟩) m.pts.length cp) ?_
 try simp only [pS]
 refine tk 14 (some 25) (.pointer (some ⟨w.heap.size+1+1,2,none⟩)) ?_
 try simp only [pS]
 refine tk 15 (some 26) (.int .i64 (t.2.2:Int)) ?_
 try simp only [pS]
 refine tk 16 (some 27) (.pointer (some ⟨gp,t.2.2*10,none⟩)) ?_
 try simp only [pS]
 refine tk 17 (some 28) (.agg #[.int .u64 (lowN (sz c.x.num)),.string (bigS (sz c.x.num)),.bool (ng c.x.num),.int .u64 (lowN (fm c.x)),.string (bigS (fm c.x)),.int .u64 (lowN (sz c.y.num)),.string (bigS (sz c.y.num)),.bool (ng c.y.num),.int .u64 (lowN (fm c.y)),.string (bigS (fm c.y))]) ?_
 try simp only [pS]
 refine tk 18 (some 29) (.agg #[.int .u64 (lowN (sz a.x.num)),.string (bigS (sz a.x.num)),.bool (ng a.x.num),.int .u64 (lowN (fm a.x)),.string (bigS (fm a.x)),.int .u64 (lowN (sz a.y.num)),.string (bigS (sz a.y.num)),.bool (ng a.y.num),.int .u64 (lowN (fm a.y)),.string (bigS (fm a.y)),.int .u64 (lowN (sz b.x.num)),.string (bigS (sz b.x.num)),.bool (ng b.x.num),.int .u64 (lowN (fm b.x)),.string (bigS (fm b.x)),.int .u64 (lowN (sz b.y.num)),.string (bigS (sz b.y.num)),.bool (ng b.y.num),.int .u64 (lowN (fm b.y)),.string (bigS (fm b.y)),.int .u64 (lowN (sz c.x.num)),.string (bigS (sz c.x.num)),.bool (ng c.x.num),.int .u64 (lowN (fm c.x)),.string (bigS (fm c.x)),.int .u64 (lowN (sz c.y.num)),.string (bigS (sz c.y.num)),.bool (ng c.y.num),.int .u64 (lowN (fm c.y)),.string (bigS (fm c.y))]) ?_
 try simp only [pS]
 refine wpAnyH_ready (rs:= [19]) (by kernel_rfl) (by simp) ?_
 refine AllReadyH.cons (o:=⟨none,_,_,_,_,_⟩) rfl (fun K hK=>?_) AllReadyH.nil
 rw [if_pos (by rfl)]
 refine wp_store_mid 137 _ _ rfl (w.heap.size+1) 0 (List.toArray [.int .u64 (lowN (sz a.x.num)),.string (bigS (sz a.x.num)),.bool (ng a.x.num),.int .u64 (lowN (fm a.x)),.string (bigS (fm a.x)),.int .u64 (lowN (sz a.y.num)),.string (bigS (sz a.y.num)),.bool (ng a.y.num),.int .u64 (lowN (fm a.y)),.string (bigS (fm a.y)),.int .u64 (lowN (sz b.x.num)),.string (bigS (sz b.x.num)),.bool (ng b.x.num),.int .u64 (lowN (fm b.x)),.string (bigS (fm b.x)),.int .u64 (lowN (sz b.y.num)),.string (bigS (sz b.y.num)),.bool (ng b.y.num),.int .u64 (lowN (fm b.y)),.string (bigS (fm b.y)),.int .u64 (lowN (sz c.x.num)),.string (bigS (sz c.x.num)),.bool (ng c.x.num),.int .u64 (lowN (fm c.x)),.string (bigS (fm c.x)),.int .u64 (lowN (sz c.y.num)),.string (bigS (sz c.y.num)),.bool (ng c.y.num),.int .u64 (lowN (fm c.y)),.string (bigS (fm c.y))]) rfl rfl (VB.there (cs:= [.int .u64 0,.string ⟨#[]⟩,.bool false,.int .u64 0,.string ⟨#[]⟩,.int .u64 0,.string ⟨#[]⟩,.bool false,.int .u64 0,.string ⟨#[]⟩,.int .u64 0,.string ⟨#[]⟩,.bool false,.int .u64 0,.string ⟨#[]⟩,.int .u64 0,.string ⟨#[]⟩,.bool false,.int .u64 0,.string ⟨#[]⟩,.int .u64 0,.string ⟨#[]⟩,.bool false,.int .u64 0,.string ⟨#[]⟩,.int .u64 0,.string ⟨#[]⟩,.bool false,.int .u64 0,.string ⟨#[]⟩]) ?_) info_P3 (by first|rfl|simp [Value.oneCell']) ?_
 ·(with_reducible (repeat' (first|(refine VB.new' ?_;exact(by first|omega|(simp;done)|(simp;omega)))|apply VB.put2|apply VB.put3|apply VB.put5|refine VB.drew ?_|refine VB.far ?_ ?_ _|refine VB.alloc ?_ _|omega|(simp;done)|(simp;omega))))
 simp only [pS]
 refine hK.out _ _ ?_ (fun hQ1=>?_)
 ·have hh:=hHeld;(try dsimp only at hh ⊢);simp only [cell_sets_ne (show w.heap.size+1+1≠w.heap.size+1 by omega),cell_sets_ne (show w.heap.size≠w.heap.size+1 by omega),cell_sets_ne (show gp≠w.heap.size+1 by omega)];exact hh
 clear hK K hHeld
 refine wpAnyH_done (by kernel_rfl) ?_ _
 go_wp2
 refine ret_row (g:=w.heap.size+1) Tryz.results68 rfl (VB.set (cs:= [.int .u64 0,.string ⟨#[]⟩,.bool false,.int .u64 0,.string ⟨#[]⟩,.int .u64 0,.string ⟨#[]⟩,.bool false,.int .u64 0,.string ⟨#[]⟩,.int .u64 0,.string ⟨#[]⟩,.bool false,.int .u64 0,.string ⟨#[]⟩,.int .u64 0,.string ⟨#[]⟩,.bool false,.int .u64 0,.string ⟨#[]⟩,.int .u64 0,.string ⟨#[]⟩,.bool false,.int .u64 0,.string ⟨#[]⟩,.int .u64 0,.string ⟨#[]⟩,.bool false,.int .u64 0,.string ⟨#[]⟩]) ?_ (c3C a b c) rfl) Tryz.underlying137 rfl info_P3 rfl ⟨rfl,?_⟩
 ·(with_reducible (repeat' (first|(refine VB.new' ?_;exact(by first|omega|(simp;done)|(simp;omega)))|apply VB.put2|apply VB.put3|apply VB.put5|refine VB.drew ?_|refine VB.far ?_ ?_ _|refine VB.alloc ?_ _|omega|(simp;done)|(simp;omega))))
 ·exact Gr.sets (by omega) _ _ (by(with_reducible (repeat' (first|exact Gr.refl _ _|refine Gr.drew ?_|refine Gr.setCell ?_ ?_ _|refine Gr.alloc ?_ ?_ _|omega|(simp;done)|(simp;omega)))))
end Go.Proofs.YtjijceliboaeaaaGreatDoor
namespace Go.Proofs.YtjijceliboaeaaaGreatDoor
open Go.RowKit Gus
theorem triC_one (x:Tri):∀v∈triC x,v.oneCell'=true:=by
 intro v hv
 simp only [triC,List.mem_cons,List.not_mem_nil,or_false]at hv
 rcases hv with rfl|rfl|rfl<;>rfl
theorem pC_one (x:Pt):∀v∈pC x,v.oneCell'=true:=by
 intro v hv
 simp only [pC,p2C,List.mem_cons,List.not_mem_nil,or_false]at hv
 rcases hv with rfl|rfl|rfl|rfl|rfl|rfl|rfl|rfl|rfl|rfl<;>rfl
theorem info_bPt:(Tryz.prog.info? 55).map (fun i=>(i.zero,i.size,i.bytes))=some (some (.agg #[.int .u64 0,.string ⟨#[]⟩,.bool false,.int .u64 0,.string ⟨#[]⟩,.int .u64 0,.string ⟨#[]⟩,.bool false,.int .u64 0,.string ⟨#[]⟩]),10,112):=by kernel_rfl
set_option maxRecDepth 20000 in
set_option maxHeartbeats 4000000 in
theorem clone_Pt (l:List Pt) (v:Value) (B:Nat) (w:World) (hS:SR pC 10 55 w B v l) (hl:l.length≤1000000):Calls Tryz.prog 16 #[v] w (fun e w'=> ∃v',e= .returned v'∧SL pC 10 55 w' w.heap.size v' l∧Gr w.heap.size w w'):=by
 have hq:= @Lib.run_eql_slice_nil Tryz.prog
 rcases hS with⟨rfl,rfl⟩|⟨g,cap,rfl,_,h3,h4,h5,h6⟩
 ·go_enter Tryz.func16,Tryz.ntmps16
  go_wp2
  go_ret
  exact⟨_,rfl,SL.nil,Gr.refl _ _⟩
 ·obtain ⟨i0,hi,hz0,hz1,hz2⟩:=info_parts info_bPt
  have HI:=Lib.hid (And.intro hi (And.intro hz0 (And.intro hz1 hz2)))
  have HR:=Lib.hid (And.intro h6 h5.lt)
  clear hi hz0 hz1 hz2 h5 h6
  go_enter Tryz.func16,Tryz.ntmps16
  go_wp2_with (at_builtin;refine wpList_appS _ rfl _ _ 27 rfl w.heap.size i0 _ 112 Tryz.underlying27 HI.out.1 HI.out.2.1 HI.out.2.2.1 HI.out.2.2.2 rfl (by decide) pC_len pC_one _ [] rfl (SL.new' pC_len [] rfl rfl (Nat.le_refl _) (by simp [maxLen]) rfl) g cap l l.length rfl rfl (HR.out.1.gr (C:=w.heap.size) (by(with_reducible (repeat' (first|exact Gr.refl _ _|refine Gr.drew ?_|refine Gr.setCell ?_ ?_ _|refine Gr.alloc ?_ ?_ _|omega|(simp;done)|(simp;omega))))) HR.out.2) (by unfold maxLen;simp;omega) (by simp;omega) (by simp) ?_;intro v' w2 hS2 hkp2 _;have HS2:=Lib.hid (And.intro hS2 hkp2);clear hS2 hkp2)
  go_ret
  exact⟨_,rfl,HS2.out.1,(show Gr w.heap.size w _ from by(with_reducible (repeat' (first|exact Gr.refl _ _|refine Gr.drew ?_|refine Gr.setCell ?_ ?_ _|refine Gr.alloc ?_ ?_ _|omega|(simp;done)|(simp;omega))))).trans (HS2.out.2.gr (fun b e=>by have:=Option.some.inj e;simp at this;omega) (by simp))⟩
theorem info_bTri:(Tryz.prog.info? 77).map (fun i=>(i.zero,i.size,i.bytes))=some (some (.agg #[.int .i64 0,.int .i64 0,.int .i64 0]),3,24):=by kernel_rfl
theorem info_bSide:(Tryz.prog.info? 79).map (fun i=>(i.zero,i.size,i.bytes))=some (some (.agg #[.int .i64 0,.int .i64 0,.int .i64 0]),3,24):=by kernel_rfl
set_option maxRecDepth 20000 in
set_option maxHeartbeats 4000000 in
theorem clip_Side (l:List Tri) (v:Value) (B:Nat) (w:World) (hS:SR triC 3 79 w B v l):Calls Tryz.prog 90 #[v] w (fun e w'=> ∃v',e= .returned v'∧SR triC 3 79 w' B v' l∧Gr w.heap.size w w'):=by
 obtain ⟨a,c,rfl⟩:=hS.at
 obtain ⟨_,h1,h2⟩:=hS.cap
 have HS:=Lib.hid hS.clip
 have hl1:(l.length:Int)≤(c:Int):=by omega
 have hl2:(c:Int)≤9223372036854775807:=by simp only [maxLen]at h2;omega
 clear hS h2
 go_enter Tryz.func90,Tryz.ntmps90
 go_wp2
 go_ret
 exact⟨_,rfl,HS.out,Gr.refl _ _⟩
end Go.Proofs.YtjijceliboaeaaaGreatDoor
