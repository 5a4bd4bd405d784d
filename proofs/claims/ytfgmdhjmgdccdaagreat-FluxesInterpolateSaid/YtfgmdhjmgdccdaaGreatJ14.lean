/-
  Part 14 of the proof: MeshC Clip MeshD CmpG.
-/
import Derived.Test.YtfgmdhjmgdccdaaGreatJ13
import Derived.Test.YtfgmdhjmgdccdaaGreatJ12
import Derived.Test.YtfgmdhjmgdccdaaGreatShelfC
set_option linter.unusedSimpArgs false
set_option linter.unusedVariables false
set_option maxHeartbeats 8000000
namespace Go.Proofs.YtfgmdhjmgdccdaaGreat
open Go.RowKit Gus
abbrev c3C (a b c:Pt):List Value:= [vA a.x,vB a.x,vC a.x,vD a.x,vE a.x,vA a.y,vB a.y,vC a.y,vD a.y,vE a.y,vA b.x,vB b.x,vC b.x,vD b.x,vE b.x,vA b.y,vB b.y,vC b.y,vD b.y,vE b.y,vA c.x,vB c.x,vC c.x,vD c.x,vE c.x,vA c.y,vB c.y,vC c.y,vD c.y,vE c.y]
abbrev c3V (a b c:Pt):Value:= .agg #[vA a.x,vB a.x,vC a.x,vD a.x,vE a.x,vA a.y,vB a.y,vC a.y,vD a.y,vE a.y,vA b.x,vB b.x,vC b.x,vD b.x,vE b.x,vA b.y,vB b.y,vC b.y,vD b.y,vE b.y,vA c.x,vB c.x,vC c.x,vD c.x,vE c.x,vA c.y,vB c.y,vC c.y,vD c.y,vE c.y]
theorem info_P3:(Tryz.prog.info? 197).map (·.size)=some 30:=by kernel_rfl
theorem VB.there {w:World} {g:Nat} {cs:List Value} (h:VB w g cs):w.there g 0 cs.length:=fun j hj=>by
 rw [Nat.zero_add]
 exact⟨by rw [h.c j cs[j] (List.getElem?_eq_getElem hj)];rfl,h.f j hj⟩
theorem cell_sets_ne {b g:Nat} (h:g≠b) (vs:List Value) (o i:Nat) (w:World):(w.setCells b o vs).cell? ⟨g,i,none⟩=w.cell? ⟨g,i,none⟩:=World.cell?_setCells_out b vs o w ⟨g,i,none⟩ fun e=>absurd e h
set_option maxRecDepth 20000 in
theorem ms_corners (m:Msh) (vp vt vs:Value) (j:Nat) (t:Tri) (a b c:Pt) (w:World) (hM:MS w 0 vp vt vs m) (hlt:j<m.tris.length) (ht:m.tris[j]=t) (g1:t.1<m.pts.length) (g2:t.2.1<m.pts.length) (g3:t.2.2<m.pts.length) (ha:m.pts[t.1]=a) (hb:m.pts[t.2.1]=b) (hcc:m.pts[t.2.2]=c):
  Calls Tryz.prog 137 #[.agg #[vp,vt,vs],.int .i64 (j:Int)] w (Ret w (c3V a b c)):=by
 obtain ⟨hP,hT,hS⟩:=hM
 obtain ⟨as_,cs,rfl⟩:=hS.at
 have l1:=hP.len
 have l2:=hT.len
 have hl1:(m.pts.length:Int)≤9223372036854775807:=by simp only [maxLen]at l1;omega
 have hl2:(m.tris.length:Int)≤9223372036854775807:=by simp only [maxLen]at l2;omega
 obtain ⟨g,ct,rfl,_,_,_,hsh,hR⟩:=hT.block (by intro e;rw [e]at hlt;simp at hlt)
 obtain ⟨gp,cp,rfl,_,_,_,hshp,hRp⟩:=hP.block (by intro e;rw [e]at g1;simp at g1)
 obtain ⟨v0,v1,v2⟩:=hR.fTri hlt ht
 obtain ⟨a0,a1,a2,a3,a4,a5,a6,a7,a8,a9⟩:=hRp.fPt g1 ha
 obtain ⟨c0,c1,c2,c3,c4,c5,c6,c7,c8,c9⟩:=hRp.fPt g2 hb
 obtain ⟨d0,d1,d2,d3,d4,d5,d6,d7,d8,d9⟩:=hRp.fPt g3 hcc
 have hgl:=hsh.lt
 have hgp:=hshp.lt
 have n1:¬gp=w.heap.size:=by omega
 have n2:¬gp=w.heap.size+1:=by omega
 have n3:¬gp=w.heap.size+1+1:=by omega
 have n4:¬g=w.heap.size:=by omega
 have n5:¬g=w.heap.size+1:=by omega
 have k1:gp<w.heap.size+1:=by omega
 have k2:gp<w.heap.size+1+1:=by omega
 have k3:g<w.heap.size+1:=by omega
 have q0:(j:Int)<(m.tris.length:Int):=by omega
 have q1:(t.1:Int)<(m.pts.length:Int):=by omega
 have q2:(t.2.1:Int)<(m.pts.length:Int):=by omega
 have q3:(t.2.2:Int)<(m.pts.length:Int):=by omega
 clear hP hT hS hR hRp hsh hshp ht ha hb hcc hlt g1 g2 g3 l1 l2
 go_enter Tryz.func137,Tryz.ntmps137
 go_wp2
 refine wp_region_held_drew (S:=(fun w'=>w'.cell? ⟨w.heap.size+1+1,0,none⟩=some (.int .i64 (t.1:Int))∧w'.cell? ⟨w.heap.size+1+1,1,none⟩=some (.int .i64 (t.2.1:Int))∧w'.cell? ⟨w.heap.size+1+1,2,none⟩=some (.int .i64 (t.2.2:Int))∧w'.cell? ⟨w.heap.size,0,none⟩=some (.slice (some ⟨gp,0,none⟩) m.pts.length cp)∧w'.cell? ⟨gp,t.1*10,none⟩=some (vA a.x)∧w'.cell? ⟨gp,t.1*10+1,none⟩=some (vB a.x)∧w'.cell? ⟨gp,t.1*10+2,none⟩=some (vC a.x)∧w'.cell? ⟨gp,t.1*10+3,none⟩=some (vD a.x)∧w'.cell? ⟨gp,t.1*10+4,none⟩=some (vE a.x)∧w'.cell? ⟨gp,t.1*10+5,none⟩=some (vA a.y)∧w'.cell? ⟨gp,t.1*10+6,none⟩=some (vB a.y)∧w'.cell? ⟨gp,t.1*10+7,none⟩=some (vC a.y)∧w'.cell? ⟨gp,t.1*10+8,none⟩=some (vD a.y)∧w'.cell? ⟨gp,t.1*10+9,none⟩=some (vE a.y)∧w'.cell? ⟨gp,t.2.1*10,none⟩=some (vA b.x)∧w'.cell? ⟨gp,t.2.1*10+1,none⟩=some (vB b.x)∧w'.cell? ⟨gp,t.2.1*10+2,none⟩=some (vC b.x)∧w'.cell? ⟨gp,t.2.1*10+3,none⟩=some (vD b.x)∧w'.cell? ⟨gp,t.2.1*10+4,none⟩=some (vE b.x)∧w'.cell? ⟨gp,t.2.1*10+5,none⟩=some (vA b.y)∧w'.cell? ⟨gp,t.2.1*10+6,none⟩=some (vB b.y)∧w'.cell? ⟨gp,t.2.1*10+7,none⟩=some (vC b.y)∧w'.cell? ⟨gp,t.2.1*10+8,none⟩=some (vD b.y)∧w'.cell? ⟨gp,t.2.1*10+9,none⟩=some (vE b.y)∧w'.cell? ⟨gp,t.2.2*10,none⟩=some (vA c.x)∧w'.cell? ⟨gp,t.2.2*10+1,none⟩=some (vB c.x)∧w'.cell? ⟨gp,t.2.2*10+2,none⟩=some (vC c.x)∧w'.cell? ⟨gp,t.2.2*10+3,none⟩=some (vD c.x)∧w'.cell? ⟨gp,t.2.2*10+4,none⟩=some (vE c.x)∧w'.cell? ⟨gp,t.2.2*10+5,none⟩=some (vA c.y)∧w'.cell? ⟨gp,t.2.2*10+6,none⟩=some (vB c.y)∧w'.cell? ⟨gp,t.2.2*10+7,none⟩=some (vC c.y)∧w'.cell? ⟨gp,t.2.2*10+8,none⟩=some (vD c.y)∧w'.cell? ⟨gp,t.2.2*10+9,none⟩=some (vE c.y))) (by kernel_rfl) ?_ (fun hHeld=>?_)
 ·simp [go_sem, *]
 refine tq 0 11 (.pointer (some ⟨w.heap.size,0,none⟩)) ?_
 refine tq 1 12 (.slice (some ⟨gp,0,none⟩) m.pts.length cp) ?_
 refine tq 2 13 (.pointer (some ⟨w.heap.size+1+1,0,none⟩)) ?_
 refine tq 3 14 (.int .i64 (t.1:Int)) ?_
 refine tq 4 15 (.pointer (some ⟨gp,t.1*10,none⟩)) ?_
 refine tq 5 16 (pV a) ?_
 refine tq 6 17 (.pointer (some ⟨w.heap.size,0,none⟩)) ?_
 refine tq 7 18 (.slice (some ⟨gp,0,none⟩) m.pts.length cp) ?_
 refine tq 8 19 (.pointer (some ⟨w.heap.size+1+1,1,none⟩)) ?_
 refine tq 9 20 (.int .i64 (t.2.1:Int)) ?_
 refine tq 10 21 (.pointer (some ⟨gp,t.2.1*10,none⟩)) ?_
 refine tq 11 22 (pV b) ?_
 refine tq 12 23 (.pointer (some ⟨w.heap.size,0,none⟩)) ?_
 refine tq 13 24 (.slice (some ⟨gp,0,none⟩) m.pts.length cp) ?_
 refine tq 14 25 (.pointer (some ⟨w.heap.size+1+1,2,none⟩)) ?_
 refine tq 15 26 (.int .i64 (t.2.2:Int)) ?_
 refine tq 16 27 (.pointer (some ⟨gp,t.2.2*10,none⟩)) ?_
 refine tq 17 28 (pV c) ?_
 refine tq 18 29 (.agg #[vA a.x,vB a.x,vC a.x,vD a.x,vE a.x,vA a.y,vB a.y,vC a.y,vD a.y,vE a.y,vA b.x,vB b.x,vC b.x,vD b.x,vE b.x,vA b.y,vB b.y,vC b.y,vD b.y,vE b.y,vA c.x,vB c.x,vC c.x,vD c.x,vE c.x,vA c.y,vB c.y,vC c.y,vD c.y,vE c.y]) ?_
 refine wpAnyH_ready (rs:= [19]) (by kernel_rfl) (by simp) ?_
 refine AllReadyH.cons (o:=⟨none,_,_,_,_,_⟩) rfl (fun K hK=>?_) AllReadyH.nil
 rw [if_pos (by rfl)]
 refine wp_store_mid 197 _ _ rfl (w.heap.size+1) 0 (List.toArray [vA a.x,vB a.x,vC a.x,vD a.x,vE a.x,vA a.y,vB a.y,vC a.y,vD a.y,vE a.y,vA b.x,vB b.x,vC b.x,vD b.x,vE b.x,vA b.y,vB b.y,vC b.y,vD b.y,vE b.y,vA c.x,vB c.x,vC c.x,vD c.x,vE c.x,vA c.y,vB c.y,vC c.y,vD c.y,vE c.y]) rfl rfl (VB.there (cs:= [zU,zS,.bool false,zU,zS,zU,zS,.bool false,zU,zS,zU,zS,.bool false,zU,zS,zU,zS,.bool false,zU,zS,zU,zS,.bool false,zU,zS,zU,zS,.bool false,zU,zS]) ?_) info_P3 (by first|rfl|simp [Value.oneCell']) ?_
 ·exact vbb
 simp only [pS]
 refine hK.out _ _ ?_ (fun hQ1=>?_)
 ·have hh:=hHeld;(try dsimp only at hh ⊢);simp only [cell_sets_ne (show w.heap.size+1+1≠w.heap.size+1 by omega),cell_sets_ne (show w.heap.size≠w.heap.size+1 by omega),cell_sets_ne (show gp≠w.heap.size+1 by omega)];exact hh
 clear hK K hHeld
 refine wpAnyH_done (by kernel_rfl) ?_ _
 go_wp2
 refine ret_row (g:=w.heap.size+1) Tryz.results137 rfl (VB.set (cs:= [zU,zS,.bool false,zU,zS,zU,zS,.bool false,zU,zS,zU,zS,.bool false,zU,zS,zU,zS,.bool false,zU,zS,zU,zS,.bool false,zU,zS,zU,zS,.bool false,zU,zS]) ?_ (c3C a b c) rfl) Tryz.underlying197 rfl info_P3 rfl ⟨rfl,?_⟩
 ·exact vbb
 ·exact Gr.sets (by omega) _ _ (by exact gzz)
end Go.Proofs.YtfgmdhjmgdccdaaGreat
namespace Go.Proofs.YtfgmdhjmgdccdaaGreat
open Go.RowKit Gus
theorem triC_one (x:Tri):∀v∈triC x,v.oneCell'=true:=by
 intro v hv
 simp only [triC,List.mem_cons,List.not_mem_nil,or_false]at hv
 rcases hv with rfl|rfl|rfl<;>rfl
theorem pC_one (x:Pt):∀v∈pC x,v.oneCell'=true:=by
 intro v hv
 simp only [pC,p2C,List.mem_cons,List.not_mem_nil,or_false]at hv
 rcases hv with rfl|rfl|rfl|rfl|rfl|rfl|rfl|rfl|rfl|rfl<;>rfl
theorem info_bPt:(Tryz.prog.info? 64).map (fun i=>(i.zero,i.size,i.bytes))=some (some (.agg #[zU,zS,.bool false,zU,zS,zU,zS,.bool false,zU,zS]),10,112):=by kernel_rfl
set_option maxRecDepth 20000 in
set_option maxHeartbeats 4000000 in
theorem clip_Pt (l:List Pt) (v:Value) (B:Nat) (w:World) (hS:SR pC 10 64 w B v l):Calls Tryz.prog 143 #[v] w (fun e w'=> ∃v',e= .returned v'∧SR pC 10 64 w' B v' l∧Gr w.heap.size w w'):=by
 obtain ⟨a,c,rfl⟩:=hS.at
 obtain ⟨_,h1,h2⟩:=hS.cap
 have HS:=Lh hS.clip
 have hl1:(l.length:Int)≤(c:Int):=by omega
 have hl2:(c:Int)≤9223372036854775807:=by simp only [maxLen]at h2;omega
 clear hS h2
 go_enter Tryz.func143,Tryz.ntmps143
 go_wp2
 go_ret
 exact⟨_,rfl,HS.out,Gr.refl _ _⟩
set_option maxRecDepth 20000 in
set_option maxHeartbeats 4000000 in
theorem clone_Pt (l:List Pt) (v:Value) (B:Nat) (w:World) (hS:SR pC 10 64 w B v l) (hl:l.length≤1000000):Calls Tryz.prog 132 #[v] w (fun e w'=> ∃v',e= .returned v'∧SL pC 10 64 w' w.heap.size v' l∧Gr w.heap.size w w'):=by
 have hq:= @Lib.run_eql_slice_nil Tryz.prog
 rcases hS with⟨rfl,rfl⟩|⟨g,cap,rfl,_,h3,h4,h5,h6⟩
 ·go_enter Tryz.func132,Tryz.ntmps132
  go_wp2
  go_ret
  exact⟨_,rfl,SL.nil,Gr.refl _ _⟩
 ·obtain ⟨i0,hi,hz0,hz1,hz2⟩:=info_parts info_bPt
  have HI:=Lh (And.intro hi (And.intro hz0 (And.intro hz1 hz2)))
  have HR:=Lh (And.intro h6 h5.lt)
  clear hi hz0 hz1 hz2 h5 h6
  go_enter Tryz.func132,Tryz.ntmps132
  go_wp2_with (at_builtin;refine wpList_appS _ rfl _ _ 31 rfl w.heap.size i0 _ 112 Tryz.underlying31 HI.out.1 HI.out.2.1 HI.out.2.2.1 HI.out.2.2.2 rfl (by decide) pC_len pC_one _ [] rfl (SL.new' pC_len [] rfl rfl (Nat.le_refl _) (by simp [maxLen]) rfl) g cap l l.length rfl rfl (HR.out.1.gr (C:=w.heap.size) (by exact gzz) HR.out.2) (by unfold maxLen;simp;omega) (by simp;omega) (by simp) ?_;intro v' w2 hS2 hkp2 _;have HS2:=Lh (And.intro hS2 hkp2);clear hS2 hkp2)
  go_ret
  exact⟨_,rfl,HS2.out.1,(show Gr w.heap.size w _ from by exact gzz).trans (HS2.out.2.gr (fun b e=>by have:=Option.some.inj e;simp at this;omega) (by simp))⟩
theorem info_bTri:(Tryz.prog.info? 106).map (fun i=>(i.zero,i.size,i.bytes))=some (some (.agg #[.int .i64 0,.int .i64 0,.int .i64 0]),3,24):=by kernel_rfl
set_option maxRecDepth 20000 in
set_option maxHeartbeats 4000000 in
theorem clip_Tri (l:List Tri) (v:Value) (B:Nat) (w:World) (hS:SR triC 3 106 w B v l):Calls Tryz.prog 144 #[v] w (fun e w'=> ∃v',e= .returned v'∧SR triC 3 106 w' B v' l∧Gr w.heap.size w w'):=by
 obtain ⟨a,c,rfl⟩:=hS.at
 obtain ⟨_,h1,h2⟩:=hS.cap
 have HS:=Lh hS.clip
 have hl1:(l.length:Int)≤(c:Int):=by omega
 have hl2:(c:Int)≤9223372036854775807:=by simp only [maxLen]at h2;omega
 clear hS h2
 go_enter Tryz.func144,Tryz.ntmps144
 go_wp2
 go_ret
 exact⟨_,rfl,HS.out,Gr.refl _ _⟩
set_option maxRecDepth 20000 in
set_option maxHeartbeats 4000000 in
theorem clone_Tri (l:List Tri) (v:Value) (B:Nat) (w:World) (hS:SR triC 3 106 w B v l) (hl:l.length≤1000000):Calls Tryz.prog 145 #[v] w (fun e w'=> ∃v',e= .returned v'∧SL triC 3 106 w' w.heap.size v' l∧Gr w.heap.size w w'):=by
 have hq:= @Lib.run_eql_slice_nil Tryz.prog
 rcases hS with⟨rfl,rfl⟩|⟨g,cap,rfl,_,h3,h4,h5,h6⟩
 ·go_enter Tryz.func145,Tryz.ntmps145
  go_wp2
  go_ret
  exact⟨_,rfl,SL.nil,Gr.refl _ _⟩
 ·obtain ⟨i0,hi,hz0,hz1,hz2⟩:=info_parts info_bTri
  have HI:=Lh (And.intro hi (And.intro hz0 (And.intro hz1 hz2)))
  have HR:=Lh (And.intro h6 h5.lt)
  clear hi hz0 hz1 hz2 h5 h6
  go_enter Tryz.func145,Tryz.ntmps145
  go_wp2_with (at_builtin;refine wpList_appS _ rfl _ _ 32 rfl w.heap.size i0 _ 24 Tryz.underlying32 HI.out.1 HI.out.2.1 HI.out.2.2.1 HI.out.2.2.2 rfl (by decide) triC_len triC_one _ [] rfl (SL.new' triC_len [] rfl rfl (Nat.le_refl _) (by simp [maxLen]) rfl) g cap l l.length rfl rfl (HR.out.1.gr (C:=w.heap.size) (by exact gzz) HR.out.2) (by unfold maxLen;simp;omega) (by simp;omega) (by simp) ?_;intro v' w2 hS2 hkp2 _;have HS2:=Lh (And.intro hS2 hkp2);clear hS2 hkp2)
  go_ret
  exact⟨_,rfl,HS2.out.1,(show Gr w.heap.size w _ from by exact gzz).trans (HS2.out.2.gr (fun b e=>by have:=Option.some.inj e;simp at this;omega) (by simp))⟩
theorem info_bSide:(Tryz.prog.info? 123).map (fun i=>(i.zero,i.size,i.bytes))=some (some (.agg #[.int .i64 0,.int .i64 0,.int .i64 0]),3,24):=by kernel_rfl
set_option maxRecDepth 20000 in
set_option maxHeartbeats 4000000 in
theorem clip_Side (l:List Tri) (v:Value) (B:Nat) (w:World) (hS:SR triC 3 123 w B v l):Calls Tryz.prog 104 #[v] w (fun e w'=> ∃v',e= .returned v'∧SR triC 3 123 w' B v' l∧Gr w.heap.size w w'):=by
 obtain ⟨a,c,rfl⟩:=hS.at
 obtain ⟨_,h1,h2⟩:=hS.cap
 have HS:=Lh hS.clip
 have hl1:(l.length:Int)≤(c:Int):=by omega
 have hl2:(c:Int)≤9223372036854775807:=by simp only [maxLen]at h2;omega
 clear hS h2
 go_enter Tryz.func104,Tryz.ntmps104
 go_wp2
 go_ret
 exact⟨_,rfl,HS.out,Gr.refl _ _⟩
set_option maxRecDepth 20000 in
set_option maxHeartbeats 4000000 in
theorem clone_Side (l:List Tri) (v:Value) (B:Nat) (w:World) (hS:SR triC 3 123 w B v l) (hl:l.length≤1000000):Calls Tryz.prog 146 #[v] w (fun e w'=> ∃v',e= .returned v'∧SL triC 3 123 w' w.heap.size v' l∧Gr w.heap.size w w'):=by
 have hq:= @Lib.run_eql_slice_nil Tryz.prog
 rcases hS with⟨rfl,rfl⟩|⟨g,cap,rfl,_,h3,h4,h5,h6⟩
 ·go_enter Tryz.func146,Tryz.ntmps146
  go_wp2
  go_ret
  exact⟨_,rfl,SL.nil,Gr.refl _ _⟩
 ·obtain ⟨i0,hi,hz0,hz1,hz2⟩:=info_parts info_bSide
  have HI:=Lh (And.intro hi (And.intro hz0 (And.intro hz1 hz2)))
  have HR:=Lh (And.intro h6 h5.lt)
  clear hi hz0 hz1 hz2 h5 h6
  go_enter Tryz.func146,Tryz.ntmps146
  go_wp2_with (at_builtin;refine wpList_appS _ rfl _ _ 33 rfl w.heap.size i0 _ 24 Tryz.underlying33 HI.out.1 HI.out.2.1 HI.out.2.2.1 HI.out.2.2.2 rfl (by decide) triC_len triC_one _ [] rfl (SL.new' triC_len [] rfl rfl (Nat.le_refl _) (by simp [maxLen]) rfl) g cap l l.length rfl rfl (HR.out.1.gr (C:=w.heap.size) (by exact gzz) HR.out.2) (by unfold maxLen;simp;omega) (by simp;omega) (by simp) ?_;intro v' w2 hS2 hkp2 _;have HS2:=Lh (And.intro hS2 hkp2);clear hS2 hkp2)
  go_ret
  exact⟨_,rfl,HS2.out.1,(show Gr w.heap.size w _ from by exact gzz).trans (HS2.out.2.gr (fun b e=>by have:=Option.some.inj e;simp at this;omega) (by simp))⟩
end Go.Proofs.YtfgmdhjmgdccdaaGreat
namespace Go.Proofs.YtfgmdhjmgdccdaaGreat
open Go.RowKit Gus
theorem SR.far {α:Type} {enc:α→List Value} {k:Nat} {t:TypeId} {w:World} {B:Nat} {v:Value} {l:List α} (h:SR enc k t w B v l) {p:Addr} (hp:p.block<B) (x:Value):SR enc k t (w.setCell p x) B v l:=by
 rcases h with h|⟨g,cap,h1,h2,h3,h4,⟨N,h5⟩,h6⟩
 ·exact .inl h
 ·refine .inr ⟨g,cap,h1,h2,h3,h4,⟨N,h5.set p x⟩,fun j hj i u hu=>?_⟩
  have hb:(w.setCell p x).heap[g]? =w.heap[g]? :=Below.heap_setCell _ _ _ _ (by omega)
  exact(World.cell?_of_block (a:=⟨g,j*k+i,none⟩) hb).trans (h6 j hj i u hu)
theorem info_Mesh:(Tryz.prog.info? 35).map (·.size)=some 3:=by kernel_rfl
theorem tells_good (n:Nat) (l:List Tri) (g:Nat) (w:World) (hV:VB w g [.int .i64 (n:Int)]) (hl:∀t∈l,goodT n t):TellsIn triV 109 #[.pointer (some ⟨g,0,none⟩)] (fun _=>false) l w:=
 ⟨enters_of Tryz.func109 (by kernel_rfl) rfl,fun W hW x hx=>by
  have e: #[triV x]++ #[Value.pointer (some ⟨g,0,none⟩)]= #[triV x,.pointer (some ⟨g,0,none⟩)]:=by simp
  rw [e]
  have hv:=hV.gr hW hV.lt
  exact ms_good x n g (hl x hx) W hv.lt (hv.c 0 _ rfl)⟩
set_option maxRecDepth 20000 in
set_option maxHeartbeats 4000000 in
theorem ms_numbered (l:List Tri) (n:Nat) (v:Value) (w:World) (hS:SR triC 3 106 w 0 v l) (hl:∀t∈l,goodT n t):Calls Tryz.prog 70 #[v,.int .i64 (n:Int)] w (Ret w (.bool true)):=by
 have hC:=Lh (fun W g (hV:VB W g [.int .i64 (n:Int)]) (hg:Gr w.heap.size w W)=>contains_Tri l v 0 106 W (hS.gr hg) (tells_good n l g W hV hl))
 have e:(l.any fun _=>false)=false:=by simp
 rw [e]at hC
 clear hS hl e
 go_enter Tryz.func70,Tryz.ntmps70
 go_wp2_with fail
 (refine rtu (hC.out _ _ (VB.new w [.int .i64 (n:Int)] _) (by exact gzz)) fun w1 hsz1 hl1 hc1 hf1 HG1=>?_;(try simp at hsz1))
 go_wp2
 go_ret
 exact⟨rfl,by exact gcc HG1 gzz⟩
set_option maxRecDepth 20000 in
set_option maxHeartbeats 4000000 in
theorem ms_Copy (m:Msh) (vp vt vs:Value) (w:World) (hM:MS w 0 vp vt vs m) (h1:m.pts.length≤1000000) (h2:m.tris.length≤1000000) (h3:m.sides.length≤1000000):
  Calls Tryz.prog 101 #[.agg #[vp,vt,vs]] w (fun e w'=> ∃a b c,e= .returned (.agg #[a,b,c])∧MS w' w.heap.size a b c m∧Gr w.heap.size w w'):=by
 have HM:=Lh hM
 obtain ⟨hP,hT,hS⟩:=hM
 obtain ⟨ap,cp,rfl⟩:=hP.at
 obtain ⟨at_,ct,rfl⟩:=hT.at
 obtain ⟨as_,cs,rfl⟩:=hS.at
 clear hP hT hS
 go_enter Tryz.func101,Tryz.ntmps101
 go_wp2_with fail
 refine wp_region_held_drew (S:=(fun w'=>w'.cell? ⟨w.heap.size,0,none⟩=some (.slice ap m.pts.length cp)∧w'.cell? ⟨w.heap.size,1,none⟩=some (.slice at_ m.tris.length ct)∧w'.cell? ⟨w.heap.size,2,none⟩=some (.slice as_ m.sides.length cs))) (by kernel_rfl) ?_ (fun hHeld=>?_)
 ·simp [go_sem, *]
 refine tq 0 3 (.pointer (some ⟨w.heap.size,0,none⟩)) ?_
 refine tq 1 4 (.slice ap m.pts.length cp) ?_
 refine tq 4 7 (.pointer (some ⟨w.heap.size,1,none⟩)) ?_
 refine tq 5 8 (.slice at_ m.tris.length ct) ?_
 refine tq 8 11 (.pointer (some ⟨w.heap.size,2,none⟩)) ?_
 refine tq 9 12 (.slice as_ m.sides.length cs) ?_
 refine rd 2 (fun K hK=>?_)
 go_simp
 (refine rtp (clone_Pt m.pts _ 0 _ (by exact HM.out.1.gr (by exact gzz)) h1) fun w2 v2 HS2 hsz2 hc2 hf2 HG2=>?_;(try simp at hsz2);have hz2_0:w.heap.size<w2.heap.size:=(by omega);have hz2_1:w.heap.size+1<w2.heap.size:=(by omega))
 refine kO hK fun hH2=>?_
 clear hK K hHeld
 refine rd 3 (fun K hK=>?_)
 go_simp
 (refine rtp (clip_Pt m.pts v2 (w.heap.size+1+1) _ (by exact(HS2.out.sr.mono (by first|omega|(simp;done)|(simp;omega))).gr (by exact gzz))) fun w3 v3 HS3 hsz3 hc3 hf3 HG3=>?_;(try simp at hsz3);have hz3_0:w.heap.size<w3.heap.size:=(by omega);have hz3_1:w.heap.size+1<w3.heap.size:=(by omega))
 refine kO hK fun hH3=>?_
 clear hK K hH2
 refine rd 6 (fun K hK=>?_)
 go_simp
 (refine rtp (clone_Tri m.tris _ 0 _ (by exact HM.out.2.1.gr (by exact gcc HG3 (gcc HG2 gzz))) h2) fun w4 v4 HS4 hsz4 hc4 hf4 HG4=>?_;(try simp at hsz4);have hz4_0:w.heap.size<w4.heap.size:=(by omega);have hz4_1:w.heap.size+1<w4.heap.size:=(by omega))
 refine kO hK fun hH4=>?_
 clear hK K hH3
 refine rd 7 (fun K hK=>?_)
 go_simp
 (refine rtp (clip_Tri m.tris v4 (w.heap.size+1+1) _ (by exact(HS4.out.sr.mono (by first|omega|(simp;done)|(simp;omega))).gr (by exact gzz))) fun w5 v5 HS5 hsz5 hc5 hf5 HG5=>?_;(try simp at hsz5);have hz5_0:w.heap.size<w5.heap.size:=(by omega);have hz5_1:w.heap.size+1<w5.heap.size:=(by omega))
 refine kO hK fun hH5=>?_
 clear hK K hH4
 refine rd 10 (fun K hK=>?_)
 go_simp
 (refine rtp (clone_Side m.sides _ 0 _ (by exact HM.out.2.2.gr (by exact gcc HG5 (gcc HG4 (gcc HG3 (gcc HG2 gzz))))) h3) fun w6 v6 HS6 hsz6 hc6 hf6 HG6=>?_;(try simp at hsz6);have hz6_0:w.heap.size<w6.heap.size:=(by omega);have hz6_1:w.heap.size+1<w6.heap.size:=(by omega))
 refine kO hK fun hH6=>?_
 clear hK K hH5
 refine rd 11 (fun K hK=>?_)
 go_simp
 (refine rtp (clip_Side m.sides v6 (w.heap.size+1+1) _ (by exact(HS6.out.sr.mono (by first|omega|(simp;done)|(simp;omega))).gr (by exact gzz))) fun w7 v7 HS7 hsz7 hc7 hf7 HG7=>?_;(try simp at hsz7);have hz7_0:w.heap.size<w7.heap.size:=(by omega);have hz7_1:w.heap.size+1<w7.heap.size:=(by omega))
 refine kO hK fun hH7=>?_
 clear hK K hH6
 obtain ⟨a3,c3,rfl⟩:=HS3.out.at
 obtain ⟨a5,c5,rfl⟩:=HS5.out.at
 obtain ⟨a7,c7,rfl⟩:=HS7.out.at
 refine tq 12 15 (.agg #[.slice a3 m.pts.length c3,.slice a5 m.tris.length c5,.slice a7 m.sides.length c7]) ?_
 refine rd 13 (fun K hK=>?_)
 go_simp
 refine kO hK fun hH8=>?_
 clear hK K hH7
 refine wpAnyH_done (by kernel_rfl) ?_ _
 go_wp2
 refine ret_row (g:=w.heap.size+1) Tryz.results101 rfl (VB.set (cs:= [.slice none 0 0,.slice none 0 0,.slice none 0 0]) ?_ [.slice a3 m.pts.length c3,.slice a5 m.tris.length c5,.slice a7 m.sides.length c7] rfl) Tryz.underlying35 rfl info_Mesh rfl ⟨_,_,_,rfl,⟨?_,?_,?_⟩,?_⟩
 ·exact vbc HG7 (vbc HG6 (vbc HG5 (vbc HG4 (vbc HG3 (vbc HG2 vbb)))))
 ·exact SR.mono (SR.far (B:=w.heap.size+1+1) (SR.far (B:=w.heap.size+1+1) (SR.far (B:=w.heap.size+1+1) (HS3.out.gr (w':=w7) (by exact gcc HG7 (gcc HG6 (gcc HG5 (gcc HG4 gzz))))) (by first|omega|(simp;done)|(simp;omega)) _) (by first|omega|(simp;done)|(simp;omega)) _) (by first|omega|(simp;done)|(simp;omega)) _) (by omega)
 ·exact SR.mono (SR.far (B:=w.heap.size+1+1) (SR.far (B:=w.heap.size+1+1) (SR.far (B:=w.heap.size+1+1) (HS5.out.gr (w':=w7) (by exact gcc HG7 (gcc HG6 gzz))) (by first|omega|(simp;done)|(simp;omega)) _) (by first|omega|(simp;done)|(simp;omega)) _) (by first|omega|(simp;done)|(simp;omega)) _) (by omega)
 ·exact SR.mono (SR.far (B:=w.heap.size+1+1) (SR.far (B:=w.heap.size+1+1) (SR.far (B:=w.heap.size+1+1) HS7.out (by first|omega|(simp;done)|(simp;omega)) _) (by first|omega|(simp;done)|(simp;omega)) _) (by first|omega|(simp;done)|(simp;omega)) _) (by omega)
 ·exact gcc HG7 (gcc HG6 (gcc HG5 (gcc HG4 (gcc HG3 (gcc HG2 gzz)))))
end Go.Proofs.YtfgmdhjmgdccdaaGreat
namespace Go.Proofs.YtfgmdhjmgdccdaaGreat
open Go.RowKit Gus Go.Maps
set_option maxRecDepth 20000 in
set_option maxHeartbeats 4000000 in
theorem cmp_Or2 (x y:Int) (g:Nat) (c:Nat) (w:World) (h0:w.cell? ⟨g,0,none⟩=some (.int .i64 x)) (h1:w.cell? ⟨g,1,none⟩=some (.int .i64 y)) (hg:g<w.heap.size):Calls Tryz.prog 73 #[.slice (some ⟨g,0,none⟩) 2 c] w (Ret w (.int .i64 (if x=0 then y else x))):=by
 have H0:=Lh h0
 have H1:=Lh h1
 have R1:=Lh (show x=0→(if x=0 then y else x)=y from fun h=>if_pos h)
 have R2:=Lh (show ¬x=0→(if x=0 then y else x)=x from fun h=>if_neg h)
 clear h0 h1
 generalize (if x=0 then y else x)=r at *
 go_enter Tryz.func73,Tryz.ntmps73
 go_wp2
 go_loopw [8] (fun s wr=> ∃k:Nat,k≤2∧s= .int .i64 k∧Hid (1≤k→x=0)∧Hid (2≤k→y=0)∧Gr w.heap.size w wr) (fun s _=>2 - (intOf s).toNat)
 case atStart=>exact⟨0,by omega,rfl,fun h=>by omega,fun h=>by omega,Gr.refl _ _⟩
 case round=>
  obtain ⟨k,hk,rfl,hx,hy,hgr⟩:=hrel
  have c0:=(hgr.cell (p:=⟨g,0,none⟩) hg).trans H0.out
  have c1:=(hgr.cell (p:=⟨g,1,none⟩) hg).trans H1.out
  have HG:=Lh hgr
  clear hgr
  rcases(show k=0∨k=1∨k=2 by omega)with rfl|rfl|rfl
  ·by_cases h:x=0
   ·subst h
    clear hx hy
    go_wp2
    go_roundw
    case rel=>exact⟨1,by omega,by go_num,fun _=>by simp,fun h=>by omega,HG.out⟩
    case measure=>simp [intOf]
   ·have HX:=Lh h
    have hb:(x == 0)=false:=by simp [h]
    clear hx hy
    go_wp2
    go_ret
    exact⟨by rw [R2.out HX.out];rfl,HG.out⟩
  ·have hx0:=hx.out (by omega)
   subst hx0
   by_cases h:y=0
   ·subst h
    clear hx hy
    go_wp2
    go_roundw
    case rel=>exact⟨2,by omega,by go_num,fun _=>by simp,fun _=>by simp,HG.out⟩
    case measure=>simp [intOf]
   ·have HX:=Lh h
    have hb:(y == 0)=false:=by simp [h]
    clear hx hy
    go_wp2
    go_ret
    exact⟨by rw [R1.out (by simp)];rfl,HG.out⟩
  ·have hx0:=hx.out (by omega)
   have hy0:=hy.out (by omega)
   subst hx0 hy0
   clear hx hy
   go_wp2
   go_ret
   exact⟨by rw [R1.out (by simp)];rfl,HG.out⟩
theorem cmp_Cmp (x y:Int) (w:World):Calls Tryz.prog 74 #[.int .i64 x,.int .i64 y] w (Ret w (.int .i64 (Lib.compareInt x y))):=
 (Tryz.cmp_Compare_int x y w).mono fun _ _ ⟨h1,h2⟩=>⟨h1,h2 ▸ Gr.refl _ _⟩
theorem cI_lt (p q:Int) (h:p<q):Lib.compareInt p q= -1:=by unfold Lib.compareInt;rw [if_pos h]
theorem cI_eq (p q:Int) (h:p=q):Lib.compareInt p q=0:=by unfold Lib.compareInt;rw [if_neg (by omega),if_neg (by omega)]
theorem cI_gt (p q:Int) (h:q<p):Lib.compareInt p q=1:=by unfold Lib.compareInt;rw [if_neg (by omega),if_pos (by omega)]
end Go.Proofs.YtfgmdhjmgdccdaaGreat
