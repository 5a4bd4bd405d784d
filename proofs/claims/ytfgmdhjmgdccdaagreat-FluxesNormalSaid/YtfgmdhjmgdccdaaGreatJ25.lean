/-
  Part 25 of the proof: OncW Where.
-/
import Derived.Test.YtfgmdhjmgdccdaaGreatJ24
import Derived.Test.YtfgmdhjmgdccdaaGreatJ15
import Derived.Test.YtfgmdhjmgdccdaaGreatJ17
set_option linter.unusedSimpArgs false
set_option linter.unusedVariables false
namespace Go.Proofs.YtfgmdhjmgdccdaaGreat
open Go.RowKit Gus
set_option maxRecDepth 20000 in
set_option maxHeartbeats 8000000 in
theorem ms_onceG (m:Msh) (vp vt vs:Value) (w:World) (hM:MS w 0 vp vt vs m) (hG:GoodO m):Calls Tryz.prog 98 #[.agg #[vp,vt,vs]] w (Ret w (.bool true)):=by
 obtain ⟨hP,hT,hS⟩:=hM
 obtain ⟨ap,cp,rfl⟩:=hP.at
 obtain ⟨at_,ct,rfl⟩:=hT.at
 obtain ⟨as_,cs,rfl⟩:=hS.at
 have l3:=hS.len
 have h6:=hG.few
 have h7:=hG.many
 have hl1:(m.pts.length:Int)≤9223372036854775807:=by omega
 have hl2:(m.tris.length:Int)≤9223372036854775807:=by omega
 have hl3:(m.sides.length:Int)≤9223372036854775807:=by simp only [maxLen]at l3;omega
 have HP:=Lib.hid hP
 have HT:=Lib.hid hT
 have HG:=Lib.hid hG
 clear hP hT hS hG l3
 obtain ⟨i0,hi,hz0,hz1,hz2⟩:=info_parts info_bBool
 have hmk:∀W:World,(Instr.makeSlice 217 (.int .i64 (m.pts.length:Int)) (.int .i64 (m.pts.length:Int))).run Tryz.prog W= .ok (.slice (some ⟨W.heap.size,0,none⟩) m.pts.length m.pts.length) (W.alloc (.cells (madeCells #[.bool false] m.pts.length) 4)):=fun W=>by
  have h:=run_make_rowN 217 4 i0 _ Tryz.underlying217 hi hz0 .i64 .i64 m.pts.length m.pts.length (by omega) (by rw [hz2];omega) (by omega) W
  rw [hz1,Nat.mul_one]at h
  exact h
 clear hi hz0 hz1 hz2
 go_enter Tryz.func98,Tryz.ntmps98
 go_wp2
 have HV0:=Lib.hid (show VB ((w.alloc (.cells #[.slice ap m.pts.length cp,.slice at_ m.tris.length ct,.slice as_ m.sides.length cs] 35)).alloc (.cells (madeCells #[.bool false] m.pts.length) 4)) w.heap.size [.slice ap m.pts.length cp,.slice at_ m.tris.length ct,.slice as_ m.sides.length cs]from by exact vbb)
 have HU0:=Lib.hid (show VB ((w.alloc (.cells #[.slice ap m.pts.length cp,.slice at_ m.tris.length ct,.slice as_ m.sides.length cs] 35)).alloc (.cells (madeCells #[.bool false] m.pts.length) 4)) (w.heap.size+1) ((usedS m.pts.length m.tris 0).map Value.bool)from by rw [←Nat.mul_one m.pts.length,madeCells_rep,Nat.mul_one];simp only [usedS,List.map_replicate];exact VB.new' (by simp))
 have HX0:=Lib.hid (show Shx ((w.alloc (.cells #[.slice ap m.pts.length cp,.slice at_ m.tris.length ct,.slice as_ m.sides.length cs] 35)).alloc (.cells (madeCells #[.bool false] m.pts.length) 4)) (w.heap.size+1) 4 from by
  have h:=Shx.new (w.alloc (.cells #[.slice ap m.pts.length cp,.slice at_ m.tris.length ct,.slice as_ m.sides.length cs] 35)) (madeCells #[.bool false] m.pts.length) 4
  simpa using h)
 have HG0:=Lib.hid (show Gr w.heap.size w ((w.alloc (.cells #[.slice ap m.pts.length cp,.slice at_ m.tris.length ct,.slice as_ m.sides.length cs] 35)).alloc (.cells (madeCells #[.bool false] m.pts.length) 4))from by exact gzz)
 generalize ((w.alloc (.cells #[.slice ap m.pts.length cp,.slice at_ m.tris.length ct,.slice as_ m.sides.length cs] 35)).alloc (.cells (madeCells #[.bool false] m.pts.length) 4))=w0 at *
 go_loopw [14] (fun s wr=> ∃n:Nat,n≤m.tris.length∧s= .int .i64 n∧Hid (VB wr w.heap.size [.slice ap m.pts.length cp,.slice at_ m.tris.length ct,.slice as_ m.sides.length cs])∧Hid (VB wr (w.heap.size+1) ((usedS m.pts.length m.tris n).map Value.bool))∧Hid (Shx wr (w.heap.size+1) 4)∧Hid (Gr w.heap.size w wr)) (fun s _=>m.tris.length - (intOf s).toNat)
 case atStart=>exact⟨0,Nat.zero_le _,rfl,HV0,HU0,HX0,HG0⟩
 case round=>
  clear HV0 HU0 HX0 HG0
  obtain ⟨n,hn,rfl,HV,HU,HX,HGr⟩:=hrel
  have hszr:=HGr.out.size
  have g0:=HV.out.lt
  have g1:=HU.out.lt
  obtain ⟨b0,b1,b2,_⟩:=HV.out.three
  by_cases hlt:n<m.tris.length
  ·obtain ⟨t,ht⟩:∃t,m.tris[n]=t:=⟨_,rfl⟩
   have hgt:=HG.out.tri t (ht ▸ List.getElem_mem hlt)
   obtain ⟨x,y,z⟩:=t
   obtain ⟨e1,e2,e3,e4,e5,e6⟩:=hgt
   dsimp only at e1 e2 e3 e4 e5 e6
   obtain ⟨g,cap',q4,_,_,_,hsh,hR⟩:=(HT.out.gr HGr.out).block (by intro e;rw [e]at hlt;simp at hlt)
   injection q4 with q4 _ q5
   subst q4 q5
   have hglt:=hsh.lt
   obtain ⟨v0,v1,v2⟩:=hR.fTri hlt ht
   clear hR hsh
   dsimp only at v0 v1 v2
   have hul:=usedS_len m.pts.length m.tris n
   have hus:=usedS_succ (N:=m.pts.length) (show m.tris[n]? =some (x,y,z) by rw [List.getElem?_eq_getElem hlt,ht])
   obtain ⟨u,hu⟩:∃u,usedS m.pts.length m.tris n=u:=⟨_,rfl⟩
   rw [hu]at HU hul hus
   replace hus:=Lib.hid hus
   clear hu
   obtain ⟨c0,x0⟩:=HU.out.at (o:=x) (by omega)
   obtain ⟨c1,x1⟩:=HU.out.at (o:=y) (by omega)
   obtain ⟨c2,x2⟩:=HU.out.at (o:=z) (by omega)
   have y0:=HU.out.f x (by simp;omega)
   have y1:=HU.out.f y (by simp;omega)
   have y2:=HU.out.f z (by simp;omega)
   have hne:¬wr.heap.size=w.heap.size+1:=by omega
   have hne2:¬w.heap.size+1=wr.heap.size:=by omega
   have k0:(x:Int)<m.pts.length:=by omega
   have k1:(y:Int)<m.pts.length:=by omega
   have k2:(z:Int)<m.pts.length:=by omega
   have k3:(0:Int)≤x:=by omega
   have k4:(0:Int)≤y:=by omega
   have k5:(0:Int)≤z:=by omega
   have f1:¬y=x:=by omega
   have f2:¬z=y:=by omega
   have f3:¬x=z:=by omega
   go_wp2
   refine wp_region_held_drew (S:=(fun w'=>w'.cell? ⟨wr.heap.size,0,none⟩=some (.int .i64 (x:Int))∧w'.cell? ⟨wr.heap.size,1,none⟩=some (.int .i64 (y:Int))∧w'.cell? ⟨wr.heap.size,2,none⟩=some (.int .i64 (z:Int)))) (by kernel_rfl) ?_ (fun hHeld=>?_)
   ·simp [go_sem, *]
   refine tk 0 (some 18) (.slice (some ⟨w.heap.size+1,0,none⟩) m.pts.length m.pts.length) ?_
   try simp only [pS]
   refine tk 1 (some 19) (.pointer (some ⟨wr.heap.size,0,none⟩)) ?_
   try simp only [pS]
   refine tk 2 (some 20) (.int .i64 (x:Int)) ?_
   try simp only [pS]
   refine tk 3 (some 21) (.slice (some ⟨w.heap.size+1,0,none⟩) m.pts.length m.pts.length) ?_
   try simp only [pS]
   refine tk 4 (some 22) (.pointer (some ⟨wr.heap.size,1,none⟩)) ?_
   try simp only [pS]
   refine tk 5 (some 23) (.int .i64 (y:Int)) ?_
   try simp only [pS]
   refine tk 6 (some 24) (.slice (some ⟨w.heap.size+1,0,none⟩) m.pts.length m.pts.length) ?_
   try simp only [pS]
   refine tk 7 (some 25) (.pointer (some ⟨wr.heap.size,2,none⟩)) ?_
   try simp only [pS]
   refine tk 8 (some 26) (.int .i64 (z:Int)) ?_
   try simp only [pS]
   refine tk 9 (some 27) (.pointer (some ⟨w.heap.size+1,x,none⟩)) ?_
   try simp only [pS]
   refine rd 10 (fun K hK=>?_)
   go_simp
   (try dsimp only)
   refine hK.out _ _ ?_ (fun hQ1=>?_)
   ·(first|exact trivial|((try dsimp only);simp [go_sem, *]))
   clear hK K hHeld
   try simp only [pS]
   refine tk 11 (some 28) (.pointer (some ⟨w.heap.size+1,y,none⟩)) ?_
   try simp only [pS]
   refine rd 12 (fun K hK=>?_)
   go_simp
   (try dsimp only)
   refine hK.out _ _ ?_ (fun hQ2=>?_)
   ·(first|exact trivial|((try dsimp only);simp [go_sem, *]))
   clear hK K hQ1
   try simp only [pS]
   refine tk 13 (some 29) (.pointer (some ⟨w.heap.size+1,z,none⟩)) ?_
   try simp only [pS]
   refine rd 14 (fun K hK=>?_)
   go_simp
   (try dsimp only)
   refine hK.out _ _ ?_ (fun hQ3=>?_)
   ·(first|exact trivial|((try dsimp only);simp [go_sem, *]))
   clear hK K hQ2
   try simp only [pS]
   refine wpAnyH_done (by kernel_rfl) ?_ _
   go_wp2
   go_roundw
   case rel=>exact⟨n+1,by omega,by go_num,Lib.hid (by exact vbd HV.out),Lib.hid (by rw [hus.out];exact VB.drew (VB.alloc (((HU.out.bool x true (by omega)).bool y true (by simp;omega)).bool z true (by simp;omega)) _)),Lib.hid (((((HX.out.set _ _).set _ _).set _ _).alloc _).drew),Lib.hid (by exact gcc HGr gzz)⟩
   case measure=>simp [intOf];omega
  ·have hnl:n=m.tris.length:=by omega
   subst hnl
   have hu:=HG.out.used
   rw [hu]at HU
   have HSB:=Lib.hid (show SR boC 1 4 wr 0 (.slice (some ⟨w.heap.size+1,0,none⟩) m.pts.length m.pts.length) (List.replicate m.pts.length true)from .inr ⟨w.heap.size+1,m.pts.length,by rw [List.length_replicate],Nat.zero_le _,by rw [List.length_replicate];exact Nat.le_refl _,by simp [maxLen];omega,HX.out,RC.of_flat boC_len fun i u hu=>HU.out.c i u (by simpa [List.flatMap_replicate,boC] using hu)⟩)
   have hany:(List.replicate m.pts.length true).any (fun x=> !x)=false:=by simp
   have hcb:=Lib.hid (contains_Bo (List.replicate m.pts.length true) _ 0 _ _ HSB.out)
   rw [hany]at hcb
   clear hu hany
   go_wp2_with fail
   (refine rtt (hcb.out) fun w1 hsz1 hc1 hf1 HG1=>?_;(try simp at hsz1);have hy1_0:w.heap.size<w1.heap.size:=(by omega))
   have HV1:=Lib.hid (HV.out.gr HG1.out g0)
   obtain ⟨b0,b1,b2,_⟩:=HV1.out.three
   go_wp2_with fail
   refine(clone_Pt m.pts _ 0 _ (HP.out.gr (by exact gcc HG1 (gcc HGr gzz))) HG.out.few).mono ?_
   rintro e w2 ⟨v2,rfl,hS2,hg2⟩
   obtain ⟨g2,c2,rfl,hb2,_,_,_,_⟩:=hS2.block HG.out.one
   have HG2:=Lib.hid hg2
   have hsz2:=hg2.size
   have HV2:=Lib.hid (HV1.out.gr hg2 (by omega))
   obtain ⟨lb,hlb⟩:=lift_B m.pts HG.out.hp_
   have hll:lb.length=m.pts.length:=by rw [←hlb];simp
   have HS2:=Lib.hid (show SL pbC 10 64 w2 w1.heap.size (.slice (some ⟨g2,0,none⟩) lb.length c2) lb from(SL.mapv lb).2 (by rw [hlb,hll];exact hS2))
   have HLB:=Lib.hid hlb
   clear hS2 hg2 hc1 hf1 hlb
   skip
   go_wp2_with fail
   have hsort:=sort_PtB lb _ g2 c2 _ HS2.out (by omega)
   rw [hll]at hsort
   refine hsort.mono ?_
   rintro e w3 ⟨rfl,lc,hpm,hps,hS3,hg3⟩
   have hlc:lc.length=m.pts.length:=by rw [hpm.length_eq,hll]
   have hS3:=(SL.mapv lc).1 hS3
   clear hsort
   obtain ⟨g3,c3,e3,_,_,_,hsh3,hR3⟩:=hS3.block (by intro e;apply HG.out.one;rw [←List.length_eq_zero_iff,←hlc,←List.length_map (f:=(·.1)),e];rfl)
   injection e3 with e3 e6 e5
   injection e3 with e3
   injection e3 with e3
   subst e3 e5
   clear e6
   have hg2l:=hsh3.lt
   have HG3:=Lib.hid hg3
   have hsz3:=hg3.size
   have HV3:=Lib.hid (HV2.out.gr hg3 (by omega))
   have hcl:(lc.map (·.1)).length=m.pts.length:=by simp [hlc]
   have hnd:(lc.map (·.1)).Nodup:=((hpm.map (·.1)).nodup_iff).2 (by rw [HLB.out];exact HG.out.nd)
   have HCP:∀W:World,g2<W.heap.size→RC pC 10 W g2 (lc.map (·.1))→Calls Tryz.prog 136 #[.slice (some ⟨g2,0,none⟩) m.pts.length c2] W (Ret W (.slice (some ⟨g2,0,none⟩) m.pts.length c2)):=fun W h1 h2=>by
    have h:=compact_Pt (lc.map (·.1)) g2 c2 W (by rw [hcl];exact h6) h1 h2 (nodup_next hnd)
    rw [hcl]at h
    exact h
   replace HCP:=Lib.hid HCP
   have HR3:=Lib.hid hR3
   obtain ⟨b0,b1,b2,_⟩:=HV3.out.three
   have h0:w.heap.size<w3.heap.size:=HV3.out.lt
   clear hS3 hg3 hsh3 hR3 hnd hpm hps hcl hlc hll HLB hmk HS2
   go_wp2_with fail
   refine wp_region_held_drew (S:=(fun w'=>w'.cell? ⟨w.heap.size,0,none⟩=some (.slice ap m.pts.length cp)∧w'.cell? ⟨w.heap.size,1,none⟩=some (.slice at_ m.tris.length ct)∧w'.cell? ⟨w.heap.size,2,none⟩=some (.slice as_ m.sides.length cs))) (by kernel_rfl) ?_ (fun hHeld=>?_)
   ·simp [go_sem, *]
   refine tk 0 (some 38) (.slice (some ⟨g2,0,none⟩) m.pts.length c2) ?_
   try simp only [pS]
   refine tk 3 (some 41) (.pointer (some ⟨w.heap.size,0,none⟩)) ?_
   try simp only [pS]
   refine tk 4 (some 42) (.slice ap m.pts.length cp) ?_
   try simp only [pS]
   refine tk 5 (some 43) (.int .i64 (m.pts.length:Int)) ?_
   try simp only [pS]
   refine rd 1 (fun K hK=>?_)
   go_simp
   (refine rtt (HCP.out _ (by first|exact hg2l|(simp;exact hg2l)) (by first|exact HR3.out|exact HR3.out.drew)) fun w4 hsz4 hc4 hf4 HG4=>?_;(try simp at hsz4);have hy4_0:w.heap.size<w4.heap.size:=(by omega))
   (try dsimp only)
   refine hK.out _ _ ?_ (fun hQ1=>?_)
   ·(first|exact trivial|((try dsimp only);simp [go_sem, *]))
   clear hK K hHeld
   try simp only [pS]
   refine tk 2 (some 40) (.int .i64 (m.pts.length:Int)) ?_
   try simp only [pS]
   refine tk 6 (some 44) (.bool true) ?_
   try simp only [pS]
   refine tk 7 (some 2) (.bool true) ?_
   try simp only [pS]
   refine wpAnyH_done (by kernel_rfl) ?_ _
   go_wp2
   go_ret
   exact⟨rfl,by exact gcc HG4 (gcc HG3 (gcc HG2 (gcc HG1 (gcc HGr gzz))))⟩
end Go.Proofs.YtfgmdhjmgdccdaaGreat
namespace Go.Proofs.YtfgmdhjmgdccdaaGreat
open Go.RowKit Gus
theorem ms_Bary (a b c p:Pt) (w:World) (ha:hp a≤1000) (hb:hp b≤1000) (hc:hp c≤1000) (hq:hp p≤1000) (h0:(twice a b c).num≠0):
  Calls Tryz.prog 183 #[pV a,pV b,pV c,pV p] w (Ret w (.tuple #[f3V (twice p b c / twice a b c).num (fm (twice p b c / twice a b c)) (twice a p c / twice a b c).num (fm (twice a p c / twice a b c)) (twice a b p / twice a b c).num (fm (twice a b p / twice a b c)),.int .i64 0])):=by
 have e0:=hw_twice a b c
 have e1:=hw_twice p b c
 have e2:=hw_twice a p c
 have e3:=hw_twice a b p
 exact Bary_raw (fun w=>tr_twice a b c w (by omega) (by omega) (by omega)) (fun w=>tr_twice p b c w (by omega) (by omega) (by omega)) (fun w=>tr_twice a p c w (by omega) (by omega) (by omega)) (fun w=>tr_twice a b p w (by omega) (by omega) (by omega))
  (fun w=>fr_Div _ _ w (by omega) (by omega) h0) (fun w=>fr_Div _ _ w (by omega) (by omega) h0) (fun w=>fr_Div _ _ w (by omega) (by omega) h0) w
def barS (a b c p:Pt):Nat→Int
 | 0=>sgnI (twice p b c / twice a b c).num
 | 1=>sgnI (twice a p c / twice a b c).num
 | _=>sgnI (twice a b p / twice a b c).num
theorem ms_Where (a b c p:Pt) (w:World) (ha:hp a≤1000) (hb:hp b≤1000) (hc:hp c≤1000) (hq:hp p≤1000) (h0:(twice a b c).num≠0):
  Calls Tryz.prog 140 #[pV a,pV b,pV c,pV p] w (Ret w (.int .i64 (whereS (barS a b c p)))):=
 Where_raw (barS a b c p) (fun w=>ms_Bary a b c p w ha hb hc hq h0) (fun w=>Sign_raw _ _ w) (fun w=>Sign_raw _ _ w) (fun w=>Sign_raw _ _ w) w
end Go.Proofs.YtfgmdhjmgdccdaaGreat
