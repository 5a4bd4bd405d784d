/-
  Part 42 of the proof: FluW.
-/
import Derived.Test.YtfgmdhjmgdccdaaGreatJ41
import Derived.Test.YtfgmdhjmgdccdaaGreatJ27
set_option linter.unusedSimpArgs false
set_option linter.unusedVariables false
set_option maxHeartbeats 8000000
namespace Go.Proofs.YtfgmdhjmgdccdaaGreat
open Go.RowKit Gus Go.Maps
def eFlow (m:Msh) (gx gy:List T) (e:Edg):Rat:=flowV gx gy (m.pts.getD e.a.toNat ⟨0,0⟩) (m.pts.getD e.b.toNat ⟨0,0⟩)
theorem gf_Interp {m:Msh} (g:GoodF m) (hsd:m.sides.length≤1000000) (gx gy:List T) (u v va vb vc:Value) (w:World) (h:MS w 0 va vb vc m) (hu:PL w 0 u gx) (hv:PL w 0 v gy)
  (hF:∀(A B:Pt) vx vy W,hp A≤4→hp B≤4→PL W 0 vx gx→PL W 0 vy gy→Calls Tryz.prog 9 #[vx,vy,f2V A.x A.y,f2V B.x B.y] W (Ret W (fracV (flowV gx gy A B)))):
  Calls Tryz.prog 22 #[.agg #[va,vb,vc],.agg #[u,v]] w (fun e w'=> ∃a b c d,e= .returned (.tuple #[.agg #[a,b,c,d],.int .i64 0])∧MS w' w.heap.size a b c m∧SR qC 5 59 w' w.heap.size d ((esM m.tris).map (eFlow m gx gy))∧Gr w.heap.size w w'):=by
 have hpos:m.pts≠ []:=by
  intro e9
  obtain ⟨t,ht⟩:=List.exists_mem_of_ne_nil _ g.A.one
  have:=(g.good t ht).1
  rw [e9]at this
  simp at this
 obtain ⟨gp,cp,e1,_⟩:=h.1.block hpos
 subst e1
 obtain ⟨au,cu,rfl⟩:=hu.at
 obtain ⟨av,cv,rfl⟩:=hv.at
 refine Interpolate_raw m _ _ _ _ vb vc w (fun W hW=>g.chk W _ vb vc (h.gr hW)) (fun W g1 g2 hW hne v1 v2=>?_)
 have hM:=h.gr hW
 refine made_raw m (esM m.tris) (eFlow m gx gy) g1 g2 _ vb vc W g.few (fun W' hW'=>ms_Copy m _ vb vc W' (hM.gr hW') (by have:=g.np;omega) (by have:=g.nt;omega) hsd) (fun W' hW'=>gf_Edges g W' _ vb vc (hM.gr hW')) (fun W' hW' ed hed=>?_)
 obtain ⟨p,q,hp',hq',hpN,hqN⟩:=esM_Ends g.good ed hed
 obtain ⟨ea,eb,el,er⟩:=ed
 dsimp only at hp' hq'
 subst hp' hq'
 have e:eFlow m gx gy ⟨(p:Int),(q:Int),el,er⟩=flowV gx gy (m.pts.getD p ⟨0,0⟩) (m.pts.getD q ⟨0,0⟩):=rfl
 rw [e]
 have hgr:=hW.trans (hW'.mono hW.size)
 exact interp1_raw m gx gy p q el er _ _ _ g1 g2 gp cp cu cv au av vb vc W' (v1.gr hW' v1.lt) (v2.gr hW' v2.lt) (h.1.gr hgr) (by rw [List.getElem?_eq_getElem hpN,(g.pt hpN).1]) (by rw [List.getElem?_eq_getElem hqN,(g.pt hqN).1]) (hu.gr hgr) (hv.gr hgr)
  (fun W2 h1 h2=>hF _ _ _ _ W2 (g.pt hpN).2 (g.pt hqN).2 h1 h2)
def unV:List Rat:= [0,0,3 / 2]
def y2L:List T:=scaleL ((2:Int):Rat) yL
theorem unV_eq:(esM unM.tris).map (eFlow unM xL y2L)=unV:=by
 rw [unM_tris,esM_un]
 have e:unM.pts= [⟨0,0⟩,⟨1,0⟩,⟨0,1⟩]:=unM_pts
 have k:∀x,eFlow unM xL y2L x=flowV xL y2L (([⟨0,0⟩,⟨1,0⟩,⟨0,1⟩]:List Pt).getD x.a.toNat ⟨0,0⟩) (([⟨0,0⟩,⟨1,0⟩,⟨0,1⟩]:List Pt).getD x.b.toNat ⟨0,0⟩):=fun x=>by unfold eFlow;rw [e]
 simp only [unE,List.map_cons,List.map_nil,k]
 decide+kernel
theorem unV_len:unV.length=(esM unM.tris).length:=by rw [unM_tris,esM_un];rfl
theorem unV_hw:∀q∈unV,hw q≤20:=by decide+kernel
theorem un_t:unM.tris[0]? =some (0,1,2):=by rw [unM_tris];rfl
theorem un_cor:corP unM (0,1,2) 0=⟨0,0⟩∧corP unM (0,1,2) 1=⟨1,0⟩∧corP unM (0,1,2) 2=⟨0,1⟩:=by
 unfold corP
 rw [unM_pts]
 exact⟨rfl,rfl,rfl⟩
theorem un_x:gat (fldX unM unV (0,1,2))=gat (scaleL (3 / 2) xL):=by
 obtain ⟨e0,e1,e2⟩:=un_cor
 unfold fldX outF byT
 rw [e0,e1,e2,unM_tris,esM_un]
 decide+kernel
theorem un_y:gat (fldY unM unV (0,1,2))=gat (scaleL (3 / 2) yL):=by
 obtain ⟨e0,e1,e2⟩:=un_cor
 unfold fldY outF byT
 rw [e0,e1,e2,unM_tris,esM_un]
 decide+kernel
theorem un_net:(unM.tris.map fun t=>netR unV (partsT (esM unM.tris) t))= [3 / 2]:=by
 rw [unM_tris,esM_un]
 decide+kernel
theorem h32:((3:Int):Rat) / ((2:Int):Rat)=3 / 2:=rfl
set_option maxRecDepth 20000 in
theorem lives_Call (w:World):Calls Tryz.prog 5 #[] w (Ret w (.bool true)):=by
 go_enter Tryz.func5,Tryz.ntmps5
 go_wp2_with fail
 refine(unit_Call _).mono ?_
 rintro e w1 ⟨a,b,c,rfl,hms,hg1⟩
 have HMS:=Lh hms
 have HG1:=Lh hg1
 have hsz1:=hg1.size
 clear hms hg1
 go_wp2_with fail
 (refine rtp (po_X _) fun w2 v2 HS2 hsz2 hc2 hf2 HG2=>?_;(try simp at hsz2))
 go_wp2_with fail
 (refine rtp (po_Y _) fun w3 v3 HS3 hsz3 hc3 hf3 HG3=>?_;(try simp at hsz3))
 go_wp2_with fail
 (refine rtt (fr_Int 2 _ (by omega) (by omega)) fun w4 hsz4 hc4 hf4 HG4=>?_;(try simp at hsz4))
 go_wp2_with fail
 (refine rtp (po_Scale ((2:Int):Rat) yL _ _ ((HS3.out.mono (Nat.zero_le _)).gr (by exact gcc HG4 gzz)) D1.y.ok (by have:=hw_two;have:=tot_yL;exact Nat.le_trans (Nat.mul_le_mul this (show hw ((2:Int):Rat)+2≤4 by omega)) (by decide))) fun w5 v5 HS5 hsz5 hc5 hf5 HG5=>?_;(try simp at hsz5))
 have HS5b:=Lh (show PL w5 0 v5 y2L from HS5.out.mono (Nat.zero_le _))
 have HS2b:=Lh (show PL w5 0 v2 xL from(HS2.out.mono (Nat.zero_le _)).gr (by exact gcc HG5 (gcc HG4 (gcc HG3 gzz))))
 have HMS5:=Lh (HMS.out.gr (w':=w5) (by exact gcc HG5 (gcc HG4 (gcc HG3 (gcc HG2 gzz)))))
 have HG5b:=Lh (show Gr w.heap.size w w5 from by exact gcc HG5 (gcc HG4 (gcc HG3 (gcc HG2 (gcc HG1 gzz)))))
 obtain ⟨ax,cx,rfl⟩:=HS2b.out.at
 obtain ⟨ay,cy,rfl⟩:=HS5b.out.at
 clear HS2 HS3 HS5 HG2 hc2 hf2 HG3 hc3 hf3 HG4 hc4 hf4 HG5 hc5 hf5 HMS
 have hdy:D1 y2L:=D1.y.scaleL _
 have hty:tot y2L≤900:=by have:=tot_scl D1.y ((2:Int):Rat);have:=hw_two;have:=tot_yL;unfold y2L;omega
 have HI:=Lh (gf_Interp unM_good (by show unR.length≤_;rw [unR_eq];decide) xL y2L _ _ _ _ _ w5 HMS5.out HS2b.out HS5b.out (fun A B vx vy W hA hB h1 h2=>it_Flow1 xL y2L vx vy A B W h1 h2 D1.x hdy (by have:=tot_xL;omega) hty (by omega) (by omega)))
 rw [unV_eq]at HI
 go_wp2_with fail
 refine HI.out.mono ?_
 rintro e w6 ⟨a6,b6,c6,d6,rfl,hms,hsv,hg6⟩
 have hsz6:=hg6.size
 obtain ⟨ap,cp,rfl⟩:=hms.1.at
 obtain ⟨at_,ct,rfl⟩:=hms.2.1.at
 obtain ⟨as_,cs,rfl⟩:=hms.2.2.at
 obtain ⟨gv,cv,e1,_⟩:=hsv.block (by decide)
 subst e1
 have HF:=Lh (show FS w6 0 _ _ _ _ unM unV from⟨⟨hms.1.mono (Nat.zero_le _),hms.2.1.mono (Nat.zero_le _),hms.2.2.mono (Nat.zero_le _)⟩,hsv.mono (Nat.zero_le _)⟩)
 have HG6:=Lh (HG5b.out.trans (hg6.mono HG5b.out.size))
 clear hms hsv hg6 HI HMS5 HS2b HS5b
 have hw6:=HG6.out.size
 have e3:unV.length=3:=rfl
 rw [e3]at HF ⊢
 go_wp2_with fail
 have HF7:=Lh (HF.out.gr (w':=(w6.alloc (.cells #[.slice ap unM.pts.length cp,.slice at_ unM.tris.length ct,.slice as_ unM.sides.length cs,.slice (some ⟨gv,0,none⟩) 3 cv] 39))) (by exact gzz))
 have HB7:=Lh (show VB (w6.alloc (.cells #[.slice ap unM.pts.length cp,.slice at_ unM.tris.length ct,.slice as_ unM.sides.length cs,.slice (some ⟨gv,0,none⟩) 3 cv] 39)) w6.heap.size [.slice ap unM.pts.length cp,.slice at_ unM.tris.length ct,.slice as_ unM.sides.length cs,.slice (some ⟨gv,0,none⟩) 3 cv]from by exact vbb)
 have HG7:=Lh (show Gr w.heap.size w (w6.alloc (.cells #[.slice ap unM.pts.length cp,.slice at_ unM.tris.length ct,.slice as_ unM.sides.length cs,.slice (some ⟨gv,0,none⟩) 3 cv] 39))from by exact gcc HG6 gzz)
 have hz7:(w6.alloc (.cells #[.slice ap unM.pts.length cp,.slice at_ unM.tris.length ct,.slice as_ unM.sides.length cs,.slice (some ⟨gv,0,none⟩) 3 cv] 39)).heap.size=w6.heap.size+1:=by simp
 generalize (w6.alloc (.cells #[.slice ap unM.pts.length cp,.slice at_ unM.tris.length ct,.slice as_ unM.sides.length cs,.slice (some ⟨gv,0,none⟩) 3 cv] 39))=w7 at *
 obtain ⟨fb,hfb⟩:∃q,w6.heap.size=q:=⟨_,rfl⟩
 rw [hfb]at HB7 hz7 ⊢
 have hf7:fb<w7.heap.size:=by omega
 clear hz7 hfb HF
 refine(gf_OnT unM_good 0 _ un_t unV unV_len unV_hw _ _ _ _ w7 HF7.out).mono ?_
 rintro e w8 ⟨u,v,rfl,hu,hv,hg8⟩
 have hsz8:=hg8.size
 obtain ⟨au,cu,rfl⟩:=hu.at
 obtain ⟨av,cv',rfl⟩:=hv.at
 have HF8:=Lh (HF7.out.gr hg8)
 have HB8:=Lh (HB7.out.gr hg8 hf7)
 have HG8:=Lh (HG7.out.trans (hg8.mono HG7.out.size))
 have HU:=Lh (hu.mono (Nat.zero_le _))
 have HW:=Lh (hv.mono (Nat.zero_le _))
 clear hu hv hg8
 have hf8:fb<w8.heap.size:=by omega
 have hs8:=HG8.out.size
 obtain ⟨b0,b1,b2,b3⟩:_∧_∧_∧_:=⟨HB8.out.c 0 _ rfl,HB8.out.c 1 _ rfl,HB8.out.c 2 _ rfl,HB8.out.c 3 _ rfl⟩
 go_wp2_with fail
 have HF9:=Lh (HF8.out.gr (w':=(w8.alloc (.cells #[.slice au (fldX unM unV (0,1,2)).length cu,.slice av (fldY unM unV (0,1,2)).length cv'] 47))) (by exact gzz))
 have HB9:=Lh (show VB (w8.alloc (.cells #[.slice au (fldX unM unV (0,1,2)).length cu,.slice av (fldY unM unV (0,1,2)).length cv'] 47)) fb [.slice ap unM.pts.length cp,.slice at_ unM.tris.length ct,.slice as_ unM.sides.length cs,.slice (some ⟨gv,0,none⟩) 3 cv]from HB8.out.alloc _)
 have HP9:=Lh (show VB (w8.alloc (.cells #[.slice au (fldX unM unV (0,1,2)).length cu,.slice av (fldY unM unV (0,1,2)).length cv'] 47)) w8.heap.size [.slice au (fldX unM unV (0,1,2)).length cu,.slice av (fldY unM unV (0,1,2)).length cv']from by exact vbb)
 have HU9:=Lh (HU.out.gr (w':=(w8.alloc (.cells #[.slice au (fldX unM unV (0,1,2)).length cu,.slice av (fldY unM unV (0,1,2)).length cv'] 47))) (by exact gzz))
 have HW9:=Lh (HW.out.gr (w':=(w8.alloc (.cells #[.slice au (fldX unM unV (0,1,2)).length cu,.slice av (fldY unM unV (0,1,2)).length cv'] 47))) (by exact gzz))
 have HG9:=Lh (show Gr w.heap.size w (w8.alloc (.cells #[.slice au (fldX unM unV (0,1,2)).length cu,.slice av (fldY unM unV (0,1,2)).length cv'] 47))from by exact gcc HG8 gzz)
 have hz9:(w8.alloc (.cells #[.slice au (fldX unM unV (0,1,2)).length cu,.slice av (fldY unM unV (0,1,2)).length cv'] 47)).heap.size=w8.heap.size+1:=by simp
 generalize (w8.alloc (.cells #[.slice au (fldX unM unV (0,1,2)).length cu,.slice av (fldY unM unV (0,1,2)).length cv'] 47))=w9 at *
 obtain ⟨gb,hgb⟩:∃q,w8.heap.size=q:=⟨_,rfl⟩
 rw [hgb]at HP9 hz9 ⊢
 have hf9:fb<w9.heap.size:=by omega
 have hg9:gb<w9.heap.size:=by omega
 have hfg:fb<gb:=by omega
 clear hz9 hgb HF8 HB8 HU HW b0 b1 b2 b3
 have HN:=Lh (gf_NetB unM_good unV unV_len (show 20≤10000000000 by omega) unV_hw _ _ _ _ w9 HF9.out)
 rw [un_net]at HN
 refine HN.out.mono ?_
 rintro e w10 ⟨vn,rfl,hn,hg10⟩
 have hsz10:=hg10.size
 obtain ⟨gn,cn,e1,_⟩:=hn.block (by decide)
 subst e1
 have e4:([3 / 2]:List Rat).length=1:=rfl
 rw [e4]at hn ⊢
 have HNS:=Lh (hn.mono (Nat.zero_le _))
 have hgn:=(SR.own_lt hn (g:=gn) rfl).2
 have HB10:=Lh (HB9.out.gr hg10 hf9)
 have HP10:=Lh (HP9.out.gr hg10 hg9)
 have HF10:=Lh (HF9.out.gr hg10)
 have HU10:=Lh (HU9.out.gr hg10)
 have HW10:=Lh (HW9.out.gr hg10)
 have HG10:=Lh (HG9.out.trans (hg10.mono HG9.out.size))
 clear hn hg10 HN HF9 HB9 HP9 HU9 HW9
 have b3:=HB10.out.c 3 _ rfl
 have hf10:fb<w10.heap.size:=by omega
 go_wp2_with fail
 clear b3
 (refine rtt (fr_Of 3 2 _ (by omega) (by omega) (by omega) (by omega) (by omega)) fun w11 hsz11 hc11 hf11 HG11=>?_;(try simp at hsz11);have hy11_0:fb<w11.heap.size:=(by omega);have hy11_1:gb<w11.heap.size:=(by omega);have hy11_2:gn<w11.heap.size:=(by omega))
 obtain ⟨r,hr⟩:∃r:Rat,((3:Int):Rat) / ((2:Int):Rat)=r:=⟨_,rfl⟩
 rw [hr]
 have hr2:(3 / 2:Rat)=r:=h32.symm.trans hr
 go_upto_region 7 with fail
 have HY:=Lh (show VB (w11.alloc (.cells #[vA r,vB r,vC r,vD r,vE r] 59)) w11.heap.size [vA r,vB r,vC r,vD r,vE r]from by exact vbb)
 have HGA:=Lh (show Gr w10.heap.size w10 (w11.alloc (.cells #[vA r,vB r,vC r,vD r,vE r] 59))from by exact gcc HG11 gzz)
 have hz12:(w11.alloc (.cells #[vA r,vB r,vC r,vD r,vE r] 59)).heap.size=w11.heap.size+1:=by simp
 generalize (w11.alloc (.cells #[vA r,vB r,vC r,vD r,vE r] 59))=w12 at *
 obtain ⟨yb,hyb⟩:∃q,w11.heap.size=q:=⟨_,rfl⟩
 rw [hyb]at HY hz12 ⊢
 have hy12:yb<w12.heap.size:=by omega
 have hfy:fb<yb:=by omega
 have hgy:gb<yb:=by omega
 have hny:gn<yb:=by omega
 clear hz12 hyb hc11 hf11 HG11
 have hgv:=(SR.own_lt HF10.out.2 (g:=gv) rfl).2
 skip
 have HB:=Lh (HB10.out.gr HGA.out hf10)
 have HP:=Lh (HP10.out.gr HGA.out (by omega))
 have HF:=Lh (HF10.out.gr HGA.out)
 have HU:=Lh (HU10.out.gr HGA.out)
 have HW:=Lh (HW10.out.gr HGA.out)
 have HN:=Lh (HNS.out.gr HGA.out)
 clear HB10 HP10 HF10 HU10 HW10 HNS
 have hgv:=(SR.own_lt HF.out.2 (g:=gv) rfl).2
 have hgn2:gn<w12.heap.size:=by omega
 have hf12:fb<w12.heap.size:=by omega
 have hg12:gb<w12.heap.size:=by omega
 obtain ⟨g',c',e1,_,_,_,_,hRv⟩:=HF.out.2.block (by decide)
 have e2:gv=g':=congrArg (fun v:Value=>match v with| .slice (some a) _ _=>a.block|_=>0) e1
 subst e2
 have k0:=hRv.fQ (j:=0) (by decide) (show unV[0]=0 from rfl)
 have k1:=hRv.fQ (j:=1) (by decide) (show unV[1]=0 from rfl)
 have k2:=hRv.fQ (j:=2) (by decide) (show unV[2]=3 / 2 from rfl)
 rw [hr2]at k2
 obtain ⟨g',c',e1',_,_,_,_,hRn⟩:=HN.out.block (by decide)
 have e2:gn=g':=congrArg (fun v:Value=>match v with| .slice (some a) _ _=>a.block|_=>0) e1'
 subst e2
 have k3:=hRn.fQ (j:=0) (by decide) (show([3 / 2]:List Rat)[0]=3 / 2 from rfl)
 rw [hr2]at k3
 clear e1 e1' hRv hRn
 obtain ⟨z0,z1,z2,z3,z4⟩:lowN (sz (0:Rat).num)=0∧bigS (sz (0:Rat).num)=⟨#[]⟩∧ng (0:Rat).num=false∧lowN (fm 0)=0∧bigS (fm 0)=⟨#[]⟩:=by decide+kernel
 (try dsimp only [vA,vB,vC,vD,vE,nA,nB,nC,nD,nE]at k0 k1)
 rw [z0,z1,z2,z3,z4]at k0 k1
 clear z0 z1 z2 z3 z4
 obtain ⟨m0,m1,m2,m3,m4⟩:=k0
 obtain ⟨n0,n1,n2,n3,n4⟩:=k1
 obtain ⟨o0,o1,o2,o3,o4⟩:=k2
 obtain ⟨p0,p1,p2,p3,p4⟩:=k3
 simp only [Nat.zero_mul,Nat.zero_add,Nat.one_mul]at m0 m1 m2 m3 m4 n0 n1 n2 n3 n4 p0 p1 p2 p3 p4
 skip
 obtain ⟨y0,y1,y2,y3,y4,-⟩:=HY.out.five
 have b3:=HB.out.c 3 _ rfl
 have c0:=HP.out.c 0 _ rfl
 have c1:=HP.out.c 1 _ rfl
 have hwr:hw r≤20:=hr2 ▸ unV_hw (3 / 2) (by simp [unV])
 have htx:=tot_xL
 have hty2:=tot_yL
 have hd1:=fld_d1 unM unV (0,1,2)
 have hd2:=fld_tot unM_good (0,1,2) (by rw [unM_tris];decide) unV unV_len unV_hw
 have ts1:=tot_scl D1.x r
 have ts2:=tot_scl D1.y r
 have J1:=Lh (fun v W h=>po_Scale r xL v W h D1.x.ok (Nat.le_trans (Nat.mul_le_mul htx (show hw r+2≤22 by omega)) (by decide)))
 have J2:=Lh (fun v W h=>po_Scale r yL v W h D1.y.ok (Nat.le_trans (Nat.mul_le_mul hty2 (show hw r+2≤22 by omega)) (by decide)))
 have ex:=un_x
 have ey:=un_y
 rw [hr2]at ex ey
 obtain ⟨X3,hX3⟩:∃x,scaleL r xL=x:=⟨_,rfl⟩
 obtain ⟨Y3,hY3⟩:∃x,scaleL r yL=x:=⟨_,rfl⟩
 have J3:=Lh (fun v u W h1 h2=>(show Calls Tryz.prog 16 #[v,u] W (Ret W (.bool true))from by have:=po_Same (fldX unM unV (0,1,2)) (scaleL r xL) v u W h1 h2 hd1.1.ok (D1.x.scaleL r).ok (by omega) (by omega);rw [ex,decide_eq_true rfl]at this;exact this))
 have J4:=Lh (fun v u W h1 h2=>(show Calls Tryz.prog 16 #[v,u] W (Ret W (.bool true))from by have:=po_Same (fldY unM unV (0,1,2)) (scaleL r yL) v u W h1 h2 hd1.2.ok (D1.y.scaleL r).ok (by omega) (by omega);rw [ey,decide_eq_true rfl]at this;exact this))
 have J1':=Lh (hX3 ▸ J1.out:∀v W,PL W 0 v xL→Calls Tryz.prog 17 #[v,fracV r] W (RetP W X3))
 have J2':=Lh (hY3 ▸ J2.out:∀v W,PL W 0 v yL→Calls Tryz.prog 17 #[v,fracV r] W (RetP W Y3))
 rw [hX3]at J3
 rw [hY3]at J4
 clear J1 J2 hX3 hY3 ex ey hwr htx hty2 hd1 hd2 ts1 ts2 hr hr2 hdy hty e3 e4
 refine wp_region_held_drew (S:=(fun w'=>w'.cell? ⟨fb,3,none⟩=some (.slice (some ⟨gv,0,none⟩) 3 cv)∧w'.cell? ⟨gb,0,none⟩=some (.slice au (fldX unM unV (0,1,2)).length cu)∧w'.cell? ⟨gb,1,none⟩=some (.slice av (fldY unM unV (0,1,2)).length cv')∧w'.cell? ⟨gv,0,none⟩=some (.int .u64 0)∧w'.cell? ⟨gv,1,none⟩=some (.string ⟨#[]⟩)∧w'.cell? ⟨gv,2,none⟩=some (.bool false)∧w'.cell? ⟨gv,3,none⟩=some (.int .u64 0)∧w'.cell? ⟨gv,4,none⟩=some (.string ⟨#[]⟩)∧w'.cell? ⟨gv,5,none⟩=some (.int .u64 0)∧w'.cell? ⟨gv,6,none⟩=some (.string ⟨#[]⟩)∧w'.cell? ⟨gv,7,none⟩=some (.bool false)∧w'.cell? ⟨gv,8,none⟩=some (.int .u64 0)∧w'.cell? ⟨gv,9,none⟩=some (.string ⟨#[]⟩)∧w'.cell? ⟨gv,10,none⟩=some (vA r)∧w'.cell? ⟨gv,11,none⟩=some (vB r)∧w'.cell? ⟨gv,12,none⟩=some (vC r)∧w'.cell? ⟨gv,13,none⟩=some (vD r)∧w'.cell? ⟨gv,14,none⟩=some (vE r)∧w'.cell? ⟨gn,0,none⟩=some (vA r)∧w'.cell? ⟨gn,1,none⟩=some (vB r)∧w'.cell? ⟨gn,2,none⟩=some (vC r)∧w'.cell? ⟨gn,3,none⟩=some (vD r)∧w'.cell? ⟨gn,4,none⟩=some (vE r)∧w'.cell? ⟨yb,0,none⟩=some (vA r)∧w'.cell? ⟨yb,1,none⟩=some (vB r)∧w'.cell? ⟨yb,2,none⟩=some (vC r)∧w'.cell? ⟨yb,3,none⟩=some (vD r)∧w'.cell? ⟨yb,4,none⟩=some (vE r))) (by kernel_rfl) ?_ (fun hHeld=>?_)
 ·simp [go_sem, *]
 refine tq 0 54 (.pointer (some ⟨fb,3,none⟩)) ?_
 refine tq 1 55 (.slice (some ⟨gv,0,none⟩) 3 cv) ?_
 refine tq 2 56 (.pointer (some ⟨gv,0,none⟩)) ?_
 refine tq 3 57 (.agg #[zU,zS,.bool false,zU,zS]) ?_
 refine tq 4 58 (.agg #[zU,zS,.bool false,zU,zS]) ?_
 refine tq 5 59 (.bool true) ?_
 refine tq 6 60 (.bool true) ?_
 refine tq 7 61 (.pointer (some ⟨fb,3,none⟩)) ?_
 refine tq 8 62 (.slice (some ⟨gv,0,none⟩) 3 cv) ?_
 refine tq 9 63 (.pointer (some ⟨gv,5,none⟩)) ?_
 refine tq 10 64 (.agg #[zU,zS,.bool false,zU,zS]) ?_
 refine tq 11 65 (.agg #[zU,zS,.bool false,zU,zS]) ?_
 refine tq 12 66 (.bool true) ?_
 refine tq 13 67 (.bool true) ?_
 refine tq 14 68 (.bool true) ?_
 refine tq 15 69 (.pointer (some ⟨fb,3,none⟩)) ?_
 refine tq 16 70 (.slice (some ⟨gv,0,none⟩) 3 cv) ?_
 refine tq 17 71 (.pointer (some ⟨gv,10,none⟩)) ?_
 refine tq 18 72 (fracV r) ?_
 refine tq 19 73 (fracV r) ?_
 refine tq 20 74 (.bool true) ?_
 refine tq 21 75 (.bool true) ?_
 refine tq 22 76 (.bool true) ?_
 refine tq 23 77 (.slice (some ⟨gn,0,none⟩) 1 cn) ?_
 refine tq 24 78 (.pointer (some ⟨gn,0,none⟩)) ?_
 refine tq 25 79 (fracV r) ?_
 refine tq 26 80 (fracV r) ?_
 refine tq 27 81 (.bool true) ?_
 refine tq 28 82 (.bool true) ?_
 refine tq 29 83 (.bool true) ?_
 refine tq 30 84 (.pointer (some ⟨gb,0,none⟩)) ?_
 refine tq 31 85 (.slice au (fldX unM unV (0,1,2)).length cu) ?_
 refine tq 33 87 (fracV r) ?_
 refine rd 32 (fun K hK=>?_)
 go_simp
 (refine rtp (po_X _) fun w21 v21 HS21 hsz21 hc21 hf21 HG21=>?_;(try simp at hsz21);have hy21_0:fb<w21.heap.size:=(by omega);have hy21_1:gb<w21.heap.size:=(by omega);have hy21_2:gn<w21.heap.size:=(by omega);have hy21_3:gv<w21.heap.size:=(by omega);have hy21_4:yb<w21.heap.size:=(by omega))
 obtain ⟨a21,c21,rfl⟩:=HS21.out.at
 refine kO hK fun hQ1=>?_
 clear hK K hHeld
 refine rd 34 (fun K hK=>?_)
 go_simp
 (refine rtp (J1'.out _ _ (HS21.out.mono (Nat.zero_le _))) fun w22 v22 HS22 hsz22 hc22 hf22 HG22=>?_;(try simp at hsz22);have hy22_0:fb<w22.heap.size:=(by omega);have hy22_1:gb<w22.heap.size:=(by omega);have hy22_2:gn<w22.heap.size:=(by omega);have hy22_3:gv<w22.heap.size:=(by omega);have hy22_4:yb<w22.heap.size:=(by omega))
 obtain ⟨a22,c22,rfl⟩:=HS22.out.at
 refine kO hK fun hQ2=>?_
 clear hK K hQ1
 refine rd 35 (fun K hK=>?_)
 go_simp
 (refine rtt (J3.out _ _ _ (HU.out.gr (by exact gcc HG22 (gcc HG21 gzz))) (HS22.out.mono (Nat.zero_le _))) fun w23 hsz23 hc23 hf23 HG23=>?_;(try simp at hsz23);have hy23_0:fb<w23.heap.size:=(by omega);have hy23_1:gb<w23.heap.size:=(by omega);have hy23_2:gn<w23.heap.size:=(by omega);have hy23_3:gv<w23.heap.size:=(by omega);have hy23_4:yb<w23.heap.size:=(by omega))
 (try dsimp only)
 refine hK.out _ _ ?_ (fun hQ3=>?_)
 ·(first|exact trivial|((try dsimp only);simp [go_sem, *]))
 clear hK K hQ2
 try simp only [pS]
 refine tq 36 90 (.bool true) ?_
 refine tq 37 91 (.bool true) ?_
 refine tq 38 92 (.pointer (some ⟨gb,1,none⟩)) ?_
 refine tq 39 93 (.slice av (fldY unM unV (0,1,2)).length cv') ?_
 refine tq 41 95 (fracV r) ?_
 refine rd 40 (fun K hK=>?_)
 go_simp
 (refine rtp (po_Y _) fun w24 v24 HS24 hsz24 hc24 hf24 HG24=>?_;(try simp at hsz24);have hy24_0:fb<w24.heap.size:=(by omega);have hy24_1:gb<w24.heap.size:=(by omega);have hy24_2:gn<w24.heap.size:=(by omega);have hy24_3:gv<w24.heap.size:=(by omega);have hy24_4:yb<w24.heap.size:=(by omega))
 obtain ⟨a24,c24,rfl⟩:=HS24.out.at
 (try dsimp only)
 refine hK.out _ _ ?_ (fun hQ4=>?_)
 ·(first|exact trivial|((try dsimp only);simp [go_sem, *]))
 clear hK K hQ3
 try simp only [pS]
 refine rd 42 (fun K hK=>?_)
 go_simp
 (refine rtp (J2'.out _ _ (HS24.out.mono (Nat.zero_le _))) fun w25 v25 HS25 hsz25 hc25 hf25 HG25=>?_;(try simp at hsz25);have hy25_0:fb<w25.heap.size:=(by omega);have hy25_1:gb<w25.heap.size:=(by omega);have hy25_2:gn<w25.heap.size:=(by omega);have hy25_3:gv<w25.heap.size:=(by omega);have hy25_4:yb<w25.heap.size:=(by omega))
 obtain ⟨a25,c25,rfl⟩:=HS25.out.at
 (try dsimp only)
 refine hK.out _ _ ?_ (fun hQ5=>?_)
 ·(first|exact trivial|((try dsimp only);simp [go_sem, *]))
 clear hK K hQ4
 try simp only [pS]
 refine rd 43 (fun K hK=>?_)
 go_simp
 (refine rtt (J4.out _ _ _ (HW.out.gr (by exact gcc HG25 (gcc HG24 (gcc HG23 (gcc HG22 (gcc HG21 gzz)))))) (HS25.out.mono (Nat.zero_le _))) fun w26 hsz26 hc26 hf26 HG26=>?_;(try simp at hsz26);have hy26_0:fb<w26.heap.size:=(by omega);have hy26_1:gb<w26.heap.size:=(by omega);have hy26_2:gn<w26.heap.size:=(by omega);have hy26_3:gv<w26.heap.size:=(by omega);have hy26_4:yb<w26.heap.size:=(by omega))
 (try dsimp only)
 refine hK.out _ _ ?_ (fun hQ6=>?_)
 ·(first|exact trivial|((try dsimp only);simp [go_sem, *]))
 clear hK K hQ5
 try simp only [pS]
 refine tq 44 98 (.bool true) ?_
 refine tq 45 0 (.bool true) ?_
 refine wpAnyH_done (by kernel_rfl) ?_ _
 go_wp2
 go_ret
 have s1:=HGA.out.size
 have s2:=HG10.out.size
 exact⟨rfl,by exact gcc HG26 (gcc HG25 (gcc HG24 (gcc HG23 (gcc HG22 (gcc HG21 (gcc HGA (gcc HG10 gzz)))))))⟩
end Go.Proofs.YtfgmdhjmgdccdaaGreat
