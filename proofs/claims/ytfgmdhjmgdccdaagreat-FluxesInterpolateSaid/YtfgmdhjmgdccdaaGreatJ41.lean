/-
  Part 41 of the proof: FluO FluV.
-/
import Derived.Test.YtfgmdhjmgdccdaaGreatJ40
import Derived.Test.YtfgmdhjmgdccdaaGreatJ39
import Derived.Test.YtfgmdhjmgdccdaaGreatJ14
set_option linter.unusedSimpArgs false
set_option linter.unusedVariables false
set_option maxHeartbeats 8000000
namespace Go.Proofs.YtfgmdhjmgdccdaaGreat
open Go.RowKit Gus Go.Maps
def unT:List Tri:= [(0,1,2)]
set_option maxRecDepth 20000 in
theorem unit_mesh {p0 p1 p2:Pt} (rs:List Tri) (h0:∀w,Calls Tryz.prog 65 #[.int .i64 0,.int .i64 0] w (Ret w (pV p0))) (h1:∀w,Calls Tryz.prog 65 #[.int .i64 1,.int .i64 0] w (Ret w (pV p1))) (h2:∀w,Calls Tryz.prog 65 #[.int .i64 0,.int .i64 1] w (Ret w (pV p2)))
  (hR:∀W vp vt,SR pC 10 64 W 0 vp [p0,p1,p2]→SR triC 3 106 W 0 vt unT→Calls Tryz.prog 66 #[vp,vt] W (fun e w'=> ∃v,e= .returned v∧SR triC 3 123 w' W.heap.size v rs∧Gr W.heap.size W w')) (w:World):
  Calls Tryz.prog 27 #[] w (fun e w'=> ∃a b c,e= .returned (.agg #[a,b,c])∧MS w' 0 a b c ⟨[p0,p1,p2],unT,rs⟩∧Gr w.heap.size w w'):=by
 have h0:=Lh h0
 have h1:=Lh h1
 have h2:=Lh h2
 have hR:=Lh hR
 go_enter Tryz.func27,Tryz.ntmps27
 go_wp2_with fail
 (refine rtt (h0.out _) fun w1 hsz1 hc1 hf1 HG1=>?_;(try simp at hsz1);have hz1_0:w.heap.size<w1.heap.size:=(by omega))
 go_wp2_with fail
 (refine rtt (h1.out _) fun w2 hsz2 hc2 hf2 HG2=>?_;(try simp at hsz2);have hz2_0:w.heap.size<w2.heap.size:=(by omega))
 go_wp2_with fail
 (refine rtt (h2.out _) fun w3 hsz3 hc3 hf3 HG3=>?_;(try simp at hsz3);have hz3_0:w.heap.size<w3.heap.size:=(by omega))
 go_wp2_with fail
 have hp:SL pC 10 64 (w3.alloc (.cells #[vA p0.x,vB p0.x,vC p0.x,vD p0.x,vE p0.x,vA p0.y,vB p0.y,vC p0.y,vD p0.y,vE p0.y,vA p1.x,vB p1.x,vC p1.x,vD p1.x,vE p1.x,vA p1.y,vB p1.y,vC p1.y,vD p1.y,vE p1.y,vA p2.x,vB p2.x,vC p2.x,vD p2.x,vE p2.x,vA p2.y,vB p2.y,vC p2.y,vD p2.y,vE p2.y] 64)) 0 (.slice (some ⟨w3.heap.size,0,none⟩) 3 3) [p0,p1,p2]:=SL.new' (enc:=pC) (l:= [p0,p1,p2]) pC_len [vA p0.x,vB p0.x,vC p0.x,vD p0.x,vE p0.x,vA p0.y,vB p0.y,vC p0.y,vD p0.y,vE p0.y,vA p1.x,vB p1.x,vC p1.x,vD p1.x,vE p1.x,vA p1.y,vB p1.y,vC p1.y,vD p1.y,vE p1.y,vA p2.x,vB p2.x,vC p2.x,vD p2.x,vE p2.x,vA p2.y,vB p2.y,vC p2.y,vD p2.y,vE p2.y] rfl rfl (Nat.zero_le _) (by simp [maxLen]) rfl
 have ht:SL triC 3 106 ((w3.alloc (.cells #[vA p0.x,vB p0.x,vC p0.x,vD p0.x,vE p0.x,vA p0.y,vB p0.y,vC p0.y,vD p0.y,vE p0.y,vA p1.x,vB p1.x,vC p1.x,vD p1.x,vE p1.x,vA p1.y,vB p1.y,vC p1.y,vD p1.y,vE p1.y,vA p2.x,vB p2.x,vC p2.x,vD p2.x,vE p2.x,vA p2.y,vB p2.y,vC p2.y,vD p2.y,vE p2.y] 64)).alloc (.cells #[.int .i64 0,.int .i64 1,.int .i64 2] 106)) 0 (.slice (some ⟨w3.heap.size+1,0,none⟩) 1 1) unT:=SL.new' (enc:=triC) (l:=unT) triC_len [.int .i64 0,.int .i64 1,.int .i64 2] rfl (by simp) (Nat.zero_le _) (by simp [maxLen,unT]) rfl
 have HP:=Lh hp
 have HT:=Lh ht
 clear hp ht
 refine(hR.out _ _ _ (HP.out.sr.gr (by exact gzz)) (HT.out.sr.gr (by exact gzz))).mono ?_
 rintro e w4 ⟨v4,rfl,hS4,hg4⟩
 obtain ⟨a4,c4,rfl⟩:=hS4.at
 have hsz4:=hg4.size
 simp at hsz4
 have hz4_0:w.heap.size<w4.heap.size:=(by omega)
 have hz4_1:w3.heap.size<w4.heap.size:=(by omega)
 have hz4_2:w3.heap.size+1<w4.heap.size:=(by omega)
 obtain ⟨hc4,hf4⟩:=hg4.cells
 have SP:=Lh (SR.gr (SR.gr HP.out.sr (by exact gzz)) hg4)
 have ST:=Lh (SR.gr (SR.gr HT.out.sr (by exact gzz)) hg4)
 have HG9:=Lh hg4
 have HS4:=Lh hS4
 clear hg4 hS4
 have hp1:w.heap.size<w3.heap.size+1:=(by omega)
 have hp2:w.heap.size<w3.heap.size+1+1:=(by omega)
 have hp3:w.heap.size<w3.heap.size+1+1+1:=(by omega)
 have hn1:w.heap.size≠w3.heap.size:=(by omega)
 have hn2:w.heap.size≠w3.heap.size+1:=(by omega)
 have hn3:w.heap.size≠w3.heap.size+1+1:=(by omega)
 go_wp2
 refine ret_row (g:=w.heap.size) Tryz.results27 rfl (VB.set (cs:= [.slice none 0 0,.slice none 0 0,.slice none 0 0]) ?_ [.slice (some ⟨w3.heap.size,0,none⟩) 3 3,.slice (some ⟨w3.heap.size+1,0,none⟩) 1 1,.slice a4 rs.length c4] rfl) Tryz.underlying35 rfl info_Mesh rfl ⟨_,_,_,rfl,⟨?_,?_,?_⟩,?_⟩
 ·refine VB.far (VB.gr ?_ HG9.out (by simp;omega)) (by simp;omega) _
  exact vbc HG3 (vbc HG2 (vbc HG1 vbb))
 ·exact(((((SP.out.off (by simp<;>omega) _).off (by simp;omega) _).off (by simp;omega) _).off (by simp;omega) _)).mono (Nat.zero_le _)
 ·exact(((((ST.out.off (by simp<;>omega) _).off (by simp;omega) _).off (by simp;omega) _).off (by simp;omega) _)).mono (Nat.zero_le _)
 ·exact(((((HS4.out.far (by simp) _).far (by simp;omega) _).far (by simp;omega) _).far (by simp;omega) _)).mono (Nat.zero_le _)
 ·exact gcc HG9 (gcc HG3 (gcc HG2 (gcc HG1 gzz)))
def u0:RawM:=⟨0,0,1,0,1,0,0,1,[]⟩
def unP:List P2:= [(0,0),(2,0),(0,2)]
def unL:List T2:= [((0,0),(2,0),(0,2))]
theorem unNet:Net unP unL:=by
 refine⟨by decide,List.pairwise_singleton _ _,by decide,fun q=>?_,by decide,by decide,by decide,by decide⟩
 simp only [unP,unL,List.mem_cons,List.not_mem_nil,or_false,exists_eq_left,hasP,Bool.or_eq_true,beq_iff_eq]
 constructor
 ·rintro (rfl|rfl|rfl)<;>simp
 ·rintro ((h|h)|h)<;>simp [←h]
def unR:List Tri:=rimOf (stC unT unT.length) (esM unT)
def unM:Msh:=meshOf u0.k u0.d unP unL unR
theorem un_tris:unL.map (triOf unP)=unT:=by decide+kernel
theorem unM_tris:unM.tris=unT:=un_tris
theorem unM_pts:unM.pts= [⟨0,0⟩,⟨1,0⟩,⟨0,1⟩]:=by
 show unP.map (ptM u0.k u0.d)=_
 decide+kernel
theorem un_good:∀t∈unT,goodT 3 t:=by decide
def unE:List Edg:= [⟨0,1,0,-1⟩,⟨0,2,-1,0⟩,⟨1,2,0,-1⟩]
theorem unE_perm:unE.Perm (stE unT unT.length):=by
 rw [show stE unT unT.length= [⟨0,1,0,-1⟩,⟨1,2,0,-1⟩,⟨0,2,-1,0⟩]from rfl]
 exact List.Perm.cons _ (List.Perm.swap _ _ _)
theorem esM_un:esM unT=unE:=es_unique (stE_nodup _ _) (esM_perm unT) (esM_sorted unT) unE_perm (by simp only [unE,List.pairwise_cons,List.mem_cons,List.not_mem_nil,or_false,ordE_lt];simp)
theorem unR_eq:unR= [(0,1,0),(0,2,0),(1,2,0)]:=by
 unfold unR
 rw [esM_un]
 decide+kernel
theorem unR_ok:RimOk (unL.map (triOf unP)) unR:=by
 rw [un_tris]
 obtain ⟨h1,h2⟩:=rim_pairs un_good (esM_perm unT) (esM_sorted unT)
 exact⟨h1,h2⟩
theorem unM_good:GoodF unM:=
 have hs:∀s∈unR,s.1<unP.length∧s.2.1<unP.length∧s.2.2≤255:=by rw [unR_eq];decide
 ⟨unNet.goodA u0.det u0.smallK u0.d_pos.1 u0.d_pos.2 hs,by rw [unM_pts];decide,by rw [unM_tris];decide,fun p hp'=>by
  obtain ⟨q,hq,rfl⟩:=List.mem_map.1 (show p∈unP.map (ptM u0.k u0.d)from hp')
  exact hp_pt u0.smallK u0.d_pos.2 (unNet.low q hq),fun W a b c hM=>ms_CheckG unNet u0.det u0.smallK u0.d_pos.1 u0.d_pos.2 hs (by rw [unR_eq];decide) unR_ok a b c W hM⟩
theorem unit_Call (w:World):Calls Tryz.prog 27 #[] w (fun e w'=> ∃a b c,e= .returned (.agg #[a,b,c])∧MS w' 0 a b c unM∧Gr w.heap.size w w'):=by
 have e:unM=⟨[⟨0,0⟩,⟨1,0⟩,⟨0,1⟩],unT,unR⟩:=by
  rw [←unM_pts,←unM_tris];rfl
 rw [e]
 refine unit_mesh (p0:=⟨0,0⟩) (p1:=⟨1,0⟩) (p2:=⟨0,1⟩) unR (fun w=>by simpa using pt_Int 0 0 w (by omega) (by omega) (by omega) (by omega)) (fun w=>by simpa using pt_Int 1 0 w (by omega) (by omega) (by omega) (by omega)) (fun w=>by simpa using pt_Int 0 1 w (by omega) (by omega) (by omega) (by omega)) (fun W vp vt hP hT=>?_) w
 refine(ms_RimG _ vp vt W unT hP (by simp) hT (by decide) (by decide) (by decide)).mono ?_
 rintro e w' ⟨v',rfl,es,hS,hp,hs,hg⟩
 have:=es_unique (stE_nodup _ _) hp hs (esM_perm unT) (esM_sorted unT)
 subst this
 exact⟨v',rfl,hS.mono (Nat.le_refl _),hg⟩
end Go.Proofs.YtfgmdhjmgdccdaaGreat
namespace Go.Proofs.YtfgmdhjmgdccdaaGreat
open Go.RowKit Gus Go.Maps
set_option maxRecDepth 20000 in
theorem interp1_raw (m:Msh) (gx gy:List T) (p q:Nat) (el er:Int) (P Q:Pt) (r:Rat) (g1 g2 gp cp cu cv:Nat) (au av:Option Addr) (vt vs:Value) (w:World) (h1:VB w g1 [.slice au gx.length cu,.slice av gy.length cv]) (h2:VB w g2 [.slice (some ⟨gp,0,none⟩) m.pts.length cp,vt,vs]) (hP:SR pC 10 64 w 0 (.slice (some ⟨gp,0,none⟩) m.pts.length cp) m.pts) (hp:m.pts[p]? =some P) (hq:m.pts[q]? =some Q) (hu:PL w 0 (.slice au gx.length cu) gx) (hv:PL w 0 (.slice av gy.length cv) gy)
  (hF:∀W,PL W 0 (.slice au gx.length cu) gx→PL W 0 (.slice av gy.length cv) gy→Calls Tryz.prog 9 #[.slice au gx.length cu,.slice av gy.length cv,f2V P.x P.y,f2V Q.x Q.y] W (Ret W (fracV r))):
  Calls Tryz.prog 58 #[.agg #[.int .i64 (p:Int),.int .i64 (q:Int),.int .i64 el,.int .i64 er],.pointer (some ⟨g1,0,none⟩),.pointer (some ⟨g2,0,none⟩)] w (Ret w (fracV r)):=by
 obtain ⟨hpl,hpe⟩:=List.getElem?_eq_some_iff.1 hp
 obtain ⟨hql,hqe⟩:=List.getElem?_eq_some_iff.1 hq
 obtain ⟨g',c',e1,_,_,_,hsh,hR⟩:=hP.block (by intro e9;rw [e9]at hpl;simp at hpl)
 cases e1
 have hgp:=hsh.lt
 have HRP:=Lh (hR.fPt hpl hpe)
 have HRQ:=Lh (hR.fPt hql hqe)
 have q1:(p:Int)<(m.pts.length:Int):=by omega
 have q2:(q:Int)<(m.pts.length:Int):=by omega
 have H1:=Lh h1
 have H2:=Lh h2
 have HU:=Lh hu
 have HW:=Lh hv
 have HF:=Lh hF
 have hl1:=h1.lt
 have hl2:=h2.lt
 have hl1b:g1<w.heap.size+1+1:=by omega
 have hl2b:g2<w.heap.size+1+1:=by omega
 have hgpb:gp<w.heap.size+1+1:=by omega
 clear h1 h2 hP hp hq hu hv hF hpe hqe hR hsh
 go_enter Tryz.func58,Tryz.ntmps58
 go_upto_region 1 with fail
 have a0:=H1.out.c 0 _ rfl
 have a1:=H1.out.c 1 _ rfl
 have b0:=H2.out.c 0 _ rfl
 obtain ⟨p0,p1,p2,p3,p4,p5,p6,p7,p8,p9⟩:=HRP.out
 obtain ⟨s0,s1,s2,s3,s4,s5,s6,s7,s8,s9⟩:=HRQ.out
 refine wp_region_held_drew (S:=(fun w'=>w'.cell? ⟨g1,0,none⟩=some (.slice au gx.length cu)∧w'.cell? ⟨g1,1,none⟩=some (.slice av gy.length cv)∧w'.cell? ⟨g2,0,none⟩=some (.slice (some ⟨gp,0,none⟩) m.pts.length cp)∧w'.cell? ⟨w.heap.size,0,none⟩=some (.int .i64 (p:Int))∧w'.cell? ⟨w.heap.size,1,none⟩=some (.int .i64 (q:Int))∧w'.cell? ⟨gp,p*10,none⟩=some (vA P.x)∧w'.cell? ⟨gp,p*10+1,none⟩=some (vB P.x)∧w'.cell? ⟨gp,p*10+2,none⟩=some (vC P.x)∧w'.cell? ⟨gp,p*10+3,none⟩=some (vD P.x)∧w'.cell? ⟨gp,p*10+4,none⟩=some (vE P.x)∧w'.cell? ⟨gp,p*10+5,none⟩=some (vA P.y)∧w'.cell? ⟨gp,p*10+6,none⟩=some (vB P.y)∧w'.cell? ⟨gp,p*10+7,none⟩=some (vC P.y)∧w'.cell? ⟨gp,p*10+8,none⟩=some (vD P.y)∧w'.cell? ⟨gp,p*10+9,none⟩=some (vE P.y)∧w'.cell? ⟨gp,q*10,none⟩=some (vA Q.x)∧w'.cell? ⟨gp,q*10+1,none⟩=some (vB Q.x)∧w'.cell? ⟨gp,q*10+2,none⟩=some (vC Q.x)∧w'.cell? ⟨gp,q*10+3,none⟩=some (vD Q.x)∧w'.cell? ⟨gp,q*10+4,none⟩=some (vE Q.x)∧w'.cell? ⟨gp,q*10+5,none⟩=some (vA Q.y)∧w'.cell? ⟨gp,q*10+6,none⟩=some (vB Q.y)∧w'.cell? ⟨gp,q*10+7,none⟩=some (vC Q.y)∧w'.cell? ⟨gp,q*10+8,none⟩=some (vD Q.y)∧w'.cell? ⟨gp,q*10+9,none⟩=some (vE Q.y))) (by kernel_rfl) ?_ (fun hHeld=>?_)
 ·simp [go_sem, *]
 refine tq 0 5 (.pointer (some ⟨g1,0,none⟩)) ?_
 refine tq 1 6 (.slice au gx.length cu) ?_
 refine tq 2 7 (.pointer (some ⟨g1,1,none⟩)) ?_
 refine tq 3 8 (.slice av gy.length cv) ?_
 refine tq 4 9 (.pointer (some ⟨g2,0,none⟩)) ?_
 refine tq 5 10 (.slice (some ⟨gp,0,none⟩) m.pts.length cp) ?_
 refine tq 6 11 (.pointer (some ⟨w.heap.size,0,none⟩)) ?_
 refine tq 7 12 (.int .i64 (p:Int)) ?_
 refine tq 8 13 (.pointer (some ⟨gp,p*10,none⟩)) ?_
 refine tq 9 14 (pV P) ?_
 refine tq 11 16 (.pointer (some ⟨g2,0,none⟩)) ?_
 refine tq 12 17 (.slice (some ⟨gp,0,none⟩) m.pts.length cp) ?_
 refine tq 13 18 (.pointer (some ⟨w.heap.size,1,none⟩)) ?_
 refine tq 14 19 (.int .i64 (q:Int)) ?_
 refine tq 15 20 (.pointer (some ⟨gp,q*10,none⟩)) ?_
 refine tq 16 21 (pV Q) ?_
 refine rd 10 (fun K hK=>?_)
 go_simp
 (refine rtt ((flpair_1 P _)) fun w11 hsz11 hc11 hf11 HG11=>?_;(try simp at hsz11);have hy11_0:g1<w11.heap.size:=(by omega);have hy11_1:g2<w11.heap.size:=(by omega);have hy11_2:gp<w11.heap.size:=(by omega);have hz11_0:w.heap.size<w11.heap.size:=(by omega);have hz11_1:w.heap.size+1<w11.heap.size:=(by omega))
 refine kO hK fun hQ1=>?_
 clear hK K hHeld
 refine rd 17 (fun K hK=>?_)
 go_simp
 (refine rtt ((flpair_1 Q _)) fun w12 hsz12 hc12 hf12 HG12=>?_;(try simp at hsz12);have hy12_0:g1<w12.heap.size:=(by omega);have hy12_1:g2<w12.heap.size:=(by omega);have hy12_2:gp<w12.heap.size:=(by omega);have hz12_0:w.heap.size<w12.heap.size:=(by omega);have hz12_1:w.heap.size+1<w12.heap.size:=(by omega))
 refine kO hK fun hQ2=>?_
 clear hK K hQ1
 refine rd 18 (fun K hK=>?_)
 go_simp
 (refine rtt (HF.out _ (HU.out.gr (by exact gcc HG12 (gcc HG11 gzz))) (HW.out.gr (by exact gcc HG12 (gcc HG11 gzz)))) fun w13 hsz13 hc13 hf13 HG13=>?_;(try simp at hsz13);have hy13_0:g1<w13.heap.size:=(by omega);have hy13_1:g2<w13.heap.size:=(by omega);have hy13_2:gp<w13.heap.size:=(by omega);have hz13_0:w.heap.size<w13.heap.size:=(by omega);have hz13_1:w.heap.size+1<w13.heap.size:=(by omega))
 refine kO hK fun hQ3=>?_
 clear hK K hQ2
 refine wpAnyH_ready (rs:= [19]) (by kernel_rfl) (by simp) ?_
 refine AllReadyH.cons (o:=⟨none,_,_,_,_,_⟩) rfl (fun K hK=>?_) AllReadyH.nil
 rw [if_pos (by rfl)]
 refine wp_store_mid 59 _ _ rfl (w.heap.size+1) 0 (List.toArray [vA r,vB r,vC r,vD r,vE r]) rfl rfl (VB.there (cs:= [zU,zS,.bool false,zU,zS]) ?_) info_Frac (by first|rfl|simp [Value.oneCell']) ?_
 ·exact vbc HG13 (vbc HG12 (vbc HG11 vbb))
 simp only [pS]
 refine hK.out _ _ ?_ (fun hQ4=>?_)
 ·have hh:=hQ3;(try dsimp only at hh ⊢);simp only [cell_sets_ne (show g1≠w.heap.size+1 by omega),cell_sets_ne (show g2≠w.heap.size+1 by omega),cell_sets_ne (show w.heap.size≠w.heap.size+1 by omega),cell_sets_ne (show gp≠w.heap.size+1 by omega)];exact hh
 clear hK K hQ3
 refine wpAnyH_done (by kernel_rfl) ?_ _
 go_wp2
 refine ret_row (g:=w.heap.size+1) Tryz.results58 rfl (VB.set (cs:= [zU,zS,.bool false,zU,zS]) ?_ [vA r,vB r,vC r,vD r,vE r] rfl) Tryz.underlying59 rfl info_Frac rfl ⟨rfl,?_⟩
 ·exact vbc HG13 (vbc HG12 (vbc HG11 vbb))
 ·exact Gr.sets (by omega) _ _ (by exact gcc HG13 (gcc HG12 (gcc HG11 gzz)))
set_option maxRecDepth 20000 in
theorem made_raw (m:Msh) (es:List Edg) (ff:Edg→Rat) (g1 g2:Nat) (vp vt vs:Value) (w:World) (he:es.length≤3000) (hC:∀W,Gr w.heap.size w W→Calls Tryz.prog 101 #[.agg #[vp,vt,vs]] W (fun e w'=> ∃a b c,e= .returned (.agg #[a,b,c])∧MS w' W.heap.size a b c m∧Gr W.heap.size W w')) (hE:∀W,Gr w.heap.size w W→Calls Tryz.prog 7 #[.agg #[vp,vt,vs]] W (fun e w'=> ∃v',e= .returned v'∧SR eC 4 44 w' W.heap.size v' es∧Gr W.heap.size W w')) (hF:∀W,Gr w.heap.size w W→∀ed∈es,Calls Tryz.prog 58 #[.agg #[.int .i64 ed.a,.int .i64 ed.b,.int .i64 ed.l,.int .i64 ed.r],.pointer (some ⟨g1,0,none⟩),.pointer (some ⟨g2,0,none⟩)] W (Ret W (fracV (ff ed)))):
  Calls Tryz.prog 57 #[.agg #[vp,vt,vs],.func (.func 58) #[] #[.pointer (some ⟨g1,0,none⟩),.pointer (some ⟨g2,0,none⟩)]] w (fun e w'=> ∃a b c d,e= .returned (.agg #[a,b,c,d])∧MS w' w.heap.size a b c m∧SR qC 5 59 w' w.heap.size d (es.map ff)∧Gr w.heap.size w w'):=by
 have HC:=Lh hC
 have HE:=Lh hE
 have HF:=Lh hF
 clear hC hE hF
 obtain ⟨iP,hiP,hz0,hz1,hz2⟩:=info_parts info_bFr
 have HIP:=Lh (And.intro hiP (And.intro hz0 (And.intro hz1 hz2)))
 clear hiP hz0 hz1 hz2
 go_enter Tryz.func57,Tryz.ntmps57
 go_wp2_with fail
 refine(HC.out _ (by exact gzz)).mono ?_
 rintro e w1 ⟨up,ut,us,rfl,hms,hg1⟩
 have hsz1:=hg1.size
 (try simp at hsz1)
 obtain ⟨ap,cp,rfl⟩:=hms.1.at
 obtain ⟨at_,ct,rfl⟩:=hms.2.1.at
 obtain ⟨as_,cs,rfl⟩:=hms.2.2.at
 have HX1:=Lh ((show VB ((w.alloc (.cells #[vp,vt,vs] 35)).alloc (.cells #[.slice none 0 0,.slice none 0 0,.slice none 0 0,.slice none 0 0] 39)) w.heap.size [vp,vt,vs]from by exact vbb).gr hg1 (by first|omega|(simp;done)|(simp;omega)))
 have HR1:=Lh ((show VB ((w.alloc (.cells #[vp,vt,vs] 35)).alloc (.cells #[.slice none 0 0,.slice none 0 0,.slice none 0 0,.slice none 0 0] 39)) (w.heap.size+1) [.slice none 0 0,.slice none 0 0,.slice none 0 0,.slice none 0 0]from by exact vbb).gr hg1 (by first|omega|(simp;done)|(simp;omega)))
 have HG1:=Lh (show Gr w.heap.size w w1 from(show Gr w.heap.size w ((w.alloc (.cells #[vp,vt,vs] 35)).alloc (.cells #[.slice none 0 0,.slice none 0 0,.slice none 0 0,.slice none 0 0] 39))from by exact gzz).trans (hg1.mono (by first|omega|(simp;done)|(simp;omega))))
 have HMS:=Lh (show MS w1 (w.heap.size+1+1) (.slice ap m.pts.length cp) (.slice at_ m.tris.length ct) (.slice as_ m.sides.length cs) m from⟨hms.1.mono (by first|omega|(simp;done)|(simp;omega)),hms.2.1.mono (by first|omega|(simp;done)|(simp;omega)),hms.2.2.mono (by first|omega|(simp;done)|(simp;omega))⟩)
 have h01:w.heap.size+1<w1.heap.size:=by omega
 have h00:w.heap.size<w1.heap.size:=by omega
 clear hms hg1 hsz1 HC
 obtain ⟨x0,x1,x2,-,-,-⟩:=HX1.out.three'
 go_wp2_with fail
 refine(HE.out _ (by exact gcc HG1 gzz)).mono ?_
 rintro e w3 ⟨ve,rfl,hEd,hg3⟩
 have hsz3:=hg3.size
 (try simp at hsz3)
 obtain ⟨ae,ce,rfl⟩:=hEd.at
 have HT3:=Lh ((show VB (w1.alloc (.cells #[(.slice ap m.pts.length cp),(.slice at_ m.tris.length ct),(.slice as_ m.sides.length cs),.slice none 0 0] 39)) w1.heap.size [(.slice ap m.pts.length cp),(.slice at_ m.tris.length ct),(.slice as_ m.sides.length cs),.slice none 0 0]from by exact vbb).gr hg3 (by first|omega|(simp;done)|(simp;omega)))
 have HG3:=Lh (show Gr w1.heap.size w1 w3 from(show Gr w1.heap.size w1 (w1.alloc (.cells #[(.slice ap m.pts.length cp),(.slice at_ m.tris.length ct),(.slice as_ m.sides.length cs),.slice none 0 0] 39))from by exact gzz).trans (hg3.mono (by first|omega|(simp;done)|(simp;omega))))
 have HD3:=Lh (show SR eC 4 44 w3 (w1.heap.size+1) _ es from hEd.mono (by first|omega|(simp;done)|(simp;omega)))
 clear hg3 hEd HE x0 x1 x2
 have hb23:w1.heap.size<w3.heap.size:=by omega
 clear hsz3
 go_wp2_with fail
 obtain ⟨b2,hb2⟩:∃r,w1.heap.size=r:=⟨_,rfl⟩
 rw [hb2]at HT3 HD3 hb23 ⊢
 have h0b:w.heap.size+1<b2:=by omega
 go_loopw [14] (fun s wr=> ∃(i:Nat) (va:Value),i≤es.length∧s= .int .i64 i∧Hid (VB wr b2 [(.slice ap m.pts.length cp),(.slice at_ m.tris.length ct),(.slice as_ m.sides.length cs),va])∧Hid (SL qC 5 59 wr w3.heap.size va ((es.take i).map ff))∧Hid (SR eC 4 44 wr (b2+1) (.slice ae es.length ce) es)∧Hid (Gr w1.heap.size w1 wr)∧w3.heap.size≤wr.heap.size) (fun s _=>es.length - (intOf s).toNat)
 case atStart=>exact⟨0,_,Nat.zero_le _,rfl,HT3,Lh SL.nil,HD3,HG3,Nat.le_refl _⟩
 case round=>
  have HDL:=Lh (fun g (e:(Value.slice ae es.length ce).ownBlock=some g)=>(SR.own_lt HD3.out e).2)
  clear HT3 HG3 HD3
  obtain ⟨i,va,hi,rfl,HT,HS,HD,HG,hwr⟩:=hrel
  obtain ⟨ac,hac⟩:∃q,(es.take i).map ff=q:=⟨_,rfl⟩
  rw [hac]at HS
  have hacl:ac.length=i:=by rw [←hac];simp;omega
  have hac1:ac.length≤3000:=by omega
  replace hac:=Lh hac
  have HAL:=Lh hacl
  clear hacl
  obtain ⟨aa,ca,rfl⟩:=HS.out.at
  have htl:=HT.out.lt
  by_cases hlt:i<es.length
  ·have q0:(i:Int)<(es.length:Int):=by omega
   have hi1:IntKind.i64.wrap ((i:Int)+1)=(i:Int)+1:=wrap64_id (by omega) (by omega)
   obtain ⟨ed,hed⟩:∃x,es[i]=x:=⟨_,rfl⟩
   have hem:ed∈es:=hed ▸ List.getElem_mem hlt
   have HFE:=Lh (fun W (hW:Gr w.heap.size w W)=>HF.out W hW ed hem)
   obtain ⟨nv,hnv⟩:∃r,ff ed=r:=⟨_,rfl⟩
   have HNX:=Lh (show(es.take (i+1)).map ff=ac++ [nv]from by rw [List.take_add_one,List.getElem?_eq_getElem hlt,hed,List.map_append,hac.out,←hnv];rfl)
   rw [hnv]at HFE
   clear hnv hem
   obtain ⟨g,cap',e4,hgB,_,_,hsh,hR⟩:=HD.out.block (by intro e;rw [e]at hlt;simp at hlt)
   injection e4 with e4 _ e5
   subst e4 e5
   have hglt:=hsh.lt
   obtain ⟨u0,u1,u2,u3⟩:=hR.fE hlt hed
   clear hR hsh hed
   obtain ⟨ea,eb,el,er⟩:=ed
   dsimp only at u0 u1 u2 u3 HFE
   go_upto_region 5 with fail
   have HB4:=Lh (show VB (wr.alloc (.cells #[.int .i64 ea,.int .i64 eb,.int .i64 el,.int .i64 er] 44)) wr.heap.size [.int .i64 ea,.int .i64 eb,.int .i64 el,.int .i64 er]from by exact vbb)
   have HT4:=Lh (show VB (wr.alloc (.cells #[.int .i64 ea,.int .i64 eb,.int .i64 el,.int .i64 er] 44)) b2 [(.slice ap m.pts.length cp),(.slice at_ m.tris.length ct),(.slice as_ m.sides.length cs),.slice aa ac.length ca]from HT.out.alloc _)
   have HG4:=Lh (show Gr wr.heap.size wr (wr.alloc (.cells #[.int .i64 ea,.int .i64 eb,.int .i64 el,.int .i64 er] 44))from by exact gzz)
   have hz4:(wr.alloc (.cells #[.int .i64 ea,.int .i64 eb,.int .i64 el,.int .i64 er] 44)).heap.size=wr.heap.size+1:=by simp
   generalize (wr.alloc (.cells #[.int .i64 ea,.int .i64 eb,.int .i64 el,.int .i64 er] 44))=w5 at *
   obtain ⟨tb,htb⟩:∃r,wr.heap.size=r:=⟨_,rfl⟩
   rw [htb]at HB4 ⊢
   have htb5:tb<w5.heap.size:=by omega
   have hb2t:b2<tb:=by omega
   have hb25:b2<w5.heap.size:=by omega
   clear hz4 u0 u1 u2 u3
   have t3:=HT4.out.c 3 _ rfl
   have y0:=HB4.out.c 0 _ rfl
   have y1:=HB4.out.c 1 _ rfl
   have y2:=HB4.out.c 2 _ rfl
   have y3:=HB4.out.c 3 _ rfl
   have HGX:=Lh (HG1.out.trans (HG.out.mono (by omega)))
   have HGW:=Lh (HGX.out.trans (HG4.out.mono (by have:=HGX.out.size;omega)))
   refine wp_region_L 8 (S:=(fun w'=>w'.cell? ⟨b2,3,none⟩=some (.slice aa ac.length ca)∧w'.cell? ⟨tb,0,none⟩=some (.int .i64 ea)∧w'.cell? ⟨tb,1,none⟩=some (.int .i64 eb)∧w'.cell? ⟨tb,2,none⟩=some (.int .i64 el)∧w'.cell? ⟨tb,3,none⟩=some (.int .i64 er))) (by kernel_rfl) ?_ (fun hHeld=>?_)
   ·simp [go_sem, *]
   refine tkL 0 (some 18) (.pointer (some ⟨b2,3,none⟩)) ?_
   try simp only [pS]
   refine tkL 1 (some 19) (.slice aa ac.length ca) ?_
   try simp only [pS]
   refine tkL 2 (some 20) (.func (.func 58) #[] #[.pointer (some ⟨g1,0,none⟩),.pointer (some ⟨g2,0,none⟩)]) ?_
   try simp only [pS]
   refine tkL 3 (some 21) (.agg #[.int .i64 ea,.int .i64 eb,.int .i64 el,.int .i64 er]) ?_
   try simp only [pS]
   refine rdL 4 (fun K hK=>?_)
   go_simp
   (refine rtu (HFE.out _ (by exact gcc HGW gzz)) fun w7 hsz7 hl7 hc7 hf7 HG7=>?_;(try simp at hsz7))
   refine kO hK fun hQ1=>?_
   clear hK K hHeld
   refine rdL 5 (fun K hK=>?_)
   go_simp
   refine kO hK fun hQ2=>?_
   clear hK K hQ1
   refine rdL 6 (fun K hK=>?_)
   rw [if_pos (by rfl)]
   refine wp_appS _ _ _ 37 rfl w3.heap.size iP _ 56 Tryz.underlying37 HIP.out.1 HIP.out.2.1 HIP.out.2.2.1 HIP.out.2.2.2 rfl (by decide) qC_len qC_one (.slice aa ac.length ca) ac rfl (HS.out.gr (by exact gcc HG7 (gcc HG4 gzz))) w7.heap.size 1 [nv] 1 rfl rfl (by first|exact RC.new1 rfl|exact RC.drew (RC.new1 rfl)) (by unfold maxLen;simp;omega) (by simp;omega) (by simp;omega) ?_
   intro v8 w8 hS8 hkp8 _
   obtain ⟨a8,c8,e8'⟩:=hS8.at
   obtain ⟨n8,hn8⟩:∃n,(ac++ [nv]).length=n:=⟨_,rfl⟩
   rw [hn8]at e8'
   subst e8'
   clear hn8
   have hsz8:=hkp8.g.size
   (try simp at hsz8)
   have HS8:=Lh hS8
   have HGA:=Lh (show Kp wr w8 (Value.slice aa ac.length ca).ownBlock from((show Gr wr.heap.size wr _ from by exact gcc HG7 (gcc HG4 gzz)).kp _).trans hkp8)
   have hsza:=HGA.out.g.size
   have HT8:=HT.out.kp HGA.out (fun e=>by have:=(own_sl HS.out _ e.symm).1;omega)
   have t80:=HT8.c 3 _ rfl
   have t81:=HT8.f 3 (by simp)
   replace HT8:=Lh HT8
   have HG8:=Lh (show Gr w1.heap.size w1 w8 from HG.out.trans (HGA.out.gr (fun b e=>by have:=(own_sl HS.out b e).1;omega) (by omega)))
   have HD8:=Lh (SR.kp HD.out HGA.out (fun g' e e2=>by have:=HDL.out g' e;have:=(own_sl HS.out g' e2.symm).1;omega))
   have HB8:VB w8 tb [.int .i64 ea,.int .i64 eb,.int .i64 el,.int .i64 er]:=VB.kp (g:=tb) (cs:= [.int .i64 ea,.int .i64 eb,.int .i64 el,.int .i64 er]) (w:=w5) HB4.out (((show Gr w5.heap.size w5 _ from by exact gcc HG7 gzz).kp _).trans hkp8) (fun e=>by have:=(own_sl HS.out _ e.symm).2;omega)
   refine hK.out _ _ ?_ (fun hQ9=>?_)
   ·exact⟨t80,HB8.c 0 _ rfl,HB8.c 1 _ rfl,HB8.c 2 _ rfl,HB8.c 3 _ rfl⟩
   clear hK K hQ2 hkp8 hS8 HB8
   try simp only [pS]
   refine tkL 7 (some 25) (.pointer (some ⟨b2,3,none⟩)) ?_
   try simp only [pS]
   refine rdE 8 (fun K hK=>?_)
   go_simp
   (try dsimp only)
   refine hK.out _ _ ?_
   clear hK K
   try simp only [pS]
   refine AnyL.done (by kernel_rfl) ?_ _
   clear t3 y0 y1 y2 y3 hc7 hf7
   have HT9:=Lh (show VB (w8.setCell ⟨b2,3,none⟩ (.slice a8 n8 c8)) b2 [(.slice ap m.pts.length cp),(.slice at_ m.tris.length ct),(.slice as_ m.sides.length cs),.slice a8 n8 c8]from HT8.out.one 3 _ (by simp))
   have HS9:=Lh (show SL qC 5 59 (w8.setCell ⟨b2,3,none⟩ (.slice a8 n8 c8)) w3.heap.size _ (ac++ [nv])from SL.far HS8.out (by simp;omega) _)
   have HD9:=Lh (show SR eC 4 44 (w8.setCell ⟨b2,3,none⟩ (.slice a8 n8 c8)) (b2+1) _ es from SR.far HD8.out (by simp) _)
   have HG9:=Lh (show Gr w1.heap.size w1 (w8.setCell ⟨b2,3,none⟩ (.slice a8 n8 c8))from Gr.setCell HG8.out (by simp;omega) _)
   have hz9:(w8.setCell ⟨b2,3,none⟩ (.slice a8 n8 c8)).heap.size=w8.heap.size:=by simp
   generalize (w8.setCell ⟨b2,3,none⟩ (.slice a8 n8 c8))=w9 at *
   clear t80 t81
   go_wp2
   go_roundw
   case rel=>exact⟨i+1,_,by omega,by go_num,HT9,Lh (by rw [HNX.out];exact HS9.out),HD9,HG9,by omega⟩
   case measure=>simp [intOf];omega
  ·have hin:i=es.length:=by omega
   subst hin
   have hac3:=hac.out
   rw [List.take_length]at hac3
   have hal:=HAL.out
   have HR9:=Lh (HR1.out.gr HG.out (by omega))
   have hcap:=HS.out.sr.cap
   have HC9:=Lh (fun W=>clipV_Q aa ac.length ca W hcap.2.1 (by have:=hcap.2.2;unfold maxLen at this;omega))
   have HS9:=Lh (SR.clip HS.out.sr)
   clear hal hcap
   have t3:=HT.out.c 3 _ rfl
   go_wp2_with fail
   (refine rtu (HC9.out _) fun w9 hsz9 hl9 hc9 hf9 HG9=>?_;(try simp at hsz9))
   have HT9:=Lh (HT.out.gr HG9.out htl)
   have HGZ:=Lh (show Gr w1.heap.size w1 w9 from HG.out.trans (HG9.out.mono (by omega)))
   have t3:=HT9.out.c 3 _ rfl
   have t4:=HT9.out.f 3 (by simp)
   clear hc9 hf9
   go_upto_region 8 with fail
   have HTZ:=Lh (show VB (w9.setCell ⟨b2,3,none⟩ (.slice aa ac.length ac.length)) b2 [(.slice ap m.pts.length cp),(.slice at_ m.tris.length ct),(.slice as_ m.sides.length cs),.slice aa ac.length ac.length]from HT9.out.one 3 _ (by simp))
   have HGY:=Lh (show Gr w1.heap.size w1 (w9.setCell ⟨b2,3,none⟩ (.slice aa ac.length ac.length))from Gr.setCell HGZ.out (by simp;omega) _)
   have HSZ:=Lh (show SR qC 5 59 (w9.setCell ⟨b2,3,none⟩ (.slice aa ac.length ac.length)) w3.heap.size (.slice aa ac.length ac.length) ac from SR.far (HS9.out.gr HG9.out) (by simp;omega) _)
   generalize (w9.setCell ⟨b2,3,none⟩ (.slice aa ac.length ac.length))=wz at *
   clear t3 t4
   have HRZ:=Lh (HR1.out.gr HGY.out (by omega))
   have HMZ:=Lh (HMS.out.gr HGY.out)
   have c0:=HTZ.out.c 0 _ rfl
   have c1:=HTZ.out.c 1 _ rfl
   have c2:=HTZ.out.c 2 _ rfl
   have c3:=HTZ.out.c 3 _ rfl
   have s0:=HRZ.out.c 0 _ rfl
   have s1:=HRZ.out.c 1 _ rfl
   have s2:=HRZ.out.c 2 _ rfl
   have s3:=HRZ.out.c 3 _ rfl
   have e0:=HRZ.out.f 0 (by simp)
   have e1:=HRZ.out.f 1 (by simp)
   have e2:=HRZ.out.f 2 (by simp)
   have e3:=HRZ.out.f 3 (by simp)
   have hrz:=HRZ.out.lt
   go_wp2
   have hsr:∀ {α:Type} {enc:α→List Value} {k:Nat} {t:TypeId} {v:Value} {l:List α},SR enc k t wz (w.heap.size+1+1) v l→SR enc k t (wz.setCells (w.heap.size+1) 0 [(.slice ap m.pts.length cp),(.slice at_ m.tris.length ct),(.slice as_ m.sides.length cs),.slice aa ac.length ac.length]) w.heap.size v l:=fun h=>((((SR.far h (by simp) _).far (by simp) _).far (by simp) _).far (by simp) _).mono (by omega)
   refine ret_row (w:=wz.setCells (w.heap.size+1) 0 [(.slice ap m.pts.length cp),(.slice at_ m.tris.length ct),(.slice as_ m.sides.length cs),.slice aa ac.length ac.length]) (g:=w.heap.size+1) Tryz.results57 rfl (VB.set (cs:= [.slice none 0 0,.slice none 0 0,.slice none 0 0,.slice none 0 0]) HRZ.out [(.slice ap m.pts.length cp),(.slice at_ m.tris.length ct),(.slice as_ m.sides.length cs),.slice aa ac.length ac.length] rfl) Tryz.underlying39 rfl info_Flx rfl ⟨_,_,_,_,rfl,⟨hsr HMZ.out.1,hsr HMZ.out.2.1,hsr HMZ.out.2.2⟩,hsr (by rw [hac3];exact HSZ.out.mono (by omega)),?_⟩
   exact Gr.sets (show w.heap.size≤w.heap.size+1 by omega) [(.slice ap m.pts.length cp),(.slice at_ m.tris.length ct),(.slice as_ m.sides.length cs),.slice aa ac.length ac.length] 0 (HG1.out.trans (HGY.out.mono (by omega)))
set_option maxRecDepth 20000 in
theorem Interpolate_raw (m:Msh) (V:List Rat) (u v vp vt vs:Value) (w:World) (hC:∀W,Gr w.heap.size w W→Calls Tryz.prog 56 #[.agg #[vp,vt,vs]] W (Ret W (.int .i64 0))) (hM:∀W g1 g2,Gr w.heap.size w W→g1≠g2→VB W g1 [u,v]→VB W g2 [vp,vt,vs]→Calls Tryz.prog 57 #[.agg #[vp,vt,vs],.func (.func 58) #[] #[.pointer (some ⟨g1,0,none⟩),.pointer (some ⟨g2,0,none⟩)]] W (fun e w'=> ∃a b c d,e= .returned (.agg #[a,b,c,d])∧MS w' W.heap.size a b c m∧SR qC 5 59 w' W.heap.size d V∧Gr W.heap.size W w')):
  Calls Tryz.prog 22 #[.agg #[vp,vt,vs],.agg #[u,v]] w (fun e w'=> ∃a b c d,e= .returned (.tuple #[.agg #[a,b,c,d],.int .i64 0])∧MS w' w.heap.size a b c m∧SR qC 5 59 w' w.heap.size d V∧Gr w.heap.size w w'):=by
 have HC:=Lh hC
 have HM:=Lh hM
 clear hC hM
 go_enter Tryz.func22,Tryz.ntmps22
 go_wp2_with fail
 (refine rtu (HC.out _ (by exact gzz)) fun w1 hsz1 hl1 hc1 hf1 HG1=>?_;(try simp at hsz1))
 have HX:=Lh (show VB w1 w.heap.size [vp,vt,vs]from by exact vbc HG1 vbb)
 have HU:=Lh (show VB w1 (w.heap.size+1) [u,v]from by exact vbc HG1 vbb)
 have HR:=Lh (show VB w1 (w.heap.size+1+1) [.slice none 0 0,.slice none 0 0,.slice none 0 0,.slice none 0 0]from by exact vbc HG1 vbb)
 have HG:=Lh (show Gr w.heap.size w w1 from by exact gcc HG1 gzz)
 clear hc1 hf1 HG1
 obtain ⟨x0,x1,x2,-,-,-⟩:=HX.out.three'
 go_wp2_with fail
 refine(HM.out _ _ _ HG.out (by omega) HU.out HX.out).mono ?_
 rintro e w2 ⟨a,b,c,d,rfl,hms,hsv,hg2⟩
 have hsz2:=hg2.size
 obtain ⟨ap,cp,rfl⟩:=hms.1.at
 obtain ⟨at_,ct,rfl⟩:=hms.2.1.at
 obtain ⟨as_,cs,rfl⟩:=hms.2.2.at
 obtain ⟨av,cv,rfl⟩:=hsv.at
 have HR2:=Lh (HR.out.gr hg2 (by omega))
 have HG2:=Lh (HG.out.trans (hg2.mono (by omega)))
 have HMS:=Lh hms
 have HSV:=Lh hsv
 have hr2:w.heap.size+1+1<w1.heap.size:=by omega
 clear hms hsv hg2
 have s0:=HR2.out.c 0 _ rfl
 have s1:=HR2.out.c 1 _ rfl
 have s2:=HR2.out.c 2 _ rfl
 have s3:=HR2.out.c 3 _ rfl
 have e0:=HR2.out.f 0 (by simp)
 have e1:=HR2.out.f 1 (by simp)
 have e2:=HR2.out.f 2 (by simp)
 have e3:=HR2.out.f 3 (by simp)
 have hrz:=HR2.out.lt
 go_wp2
 have hsr:∀ {α:Type} {enc:α→List Value} {k:Nat} {t:TypeId} {v:Value} {l:List α},SR enc k t w2 w1.heap.size v l→SR enc k t (w2.setCells (w.heap.size+1+1) 0 [(.slice ap m.pts.length cp),(.slice at_ m.tris.length ct),(.slice as_ m.sides.length cs),.slice av V.length cv]) w.heap.size v l:=fun h=>((((SR.far h (by simp;omega) _).far (by simp;omega) _).far (by simp;omega) _).far (by simp;omega) _).mono (by omega)
 refine ret_row2 (w:=w2.setCells (w.heap.size+1+1) 0 [(.slice ap m.pts.length cp),(.slice at_ m.tris.length ct),(.slice as_ m.sides.length cs),.slice av V.length cv]) (g:=w.heap.size+1+1) Tryz.results22 rfl rfl (VB.set (cs:= [.slice none 0 0,.slice none 0 0,.slice none 0 0,.slice none 0 0]) HR2.out [(.slice ap m.pts.length cp),(.slice at_ m.tris.length ct),(.slice as_ m.sides.length cs),.slice av V.length cv] rfl) Tryz.underlying39 rfl info_Flx rfl ⟨_,_,_,_,rfl,⟨hsr HMS.out.1,hsr HMS.out.2.1,hsr HMS.out.2.2⟩,hsr HSV.out,?_⟩
 exact Gr.sets (show w.heap.size≤w.heap.size+1+1 by omega) [(.slice ap m.pts.length cp),(.slice at_ m.tris.length ct),(.slice as_ m.sides.length cs),.slice av V.length cv] 0 HG2.out
end Go.Proofs.YtfgmdhjmgdccdaaGreat
