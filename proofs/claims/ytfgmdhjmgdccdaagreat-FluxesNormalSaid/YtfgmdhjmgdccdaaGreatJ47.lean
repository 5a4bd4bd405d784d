/-
  Part 47 of the proof: FluN.
-/
import Derived.Test.YtfgmdhjmgdccdaaGreatJ46
import Derived.Test.YtfgmdhjmgdccdaaGreatJ45
import Derived.Test.YtfgmdhjmgdccdaaGreatJ31
set_option linter.unusedSimpArgs false
set_option linter.unusedVariables false
namespace Go.Proofs.YtfgmdhjmgdccdaaGreat
open Go.RowKit Gus Go.Maps
set_option maxRecDepth 20000 in
set_option maxHeartbeats 8000000 in
theorem law_normal {m:Msh} (g:GoodF m) (V:List Rat) (hVl:V.length=(esM m.tris).length) (hVb:∀q∈V,hw q≤20) (nx ny dn fi nq cq:Nat) (m0 m1 m2 m3:Int) (bv:Value) (aq:Option Addr) (w:World)
  (hOf:nq≤100→∀W,Gr w.heap.size w W→Calls Tryz.prog 6 #[.agg #[.int .u8 (nx:Int),.int .u8 (ny:Int),bv,.int .i8 m0,.int .i8 m1,.int .i8 m2,.int .i8 m3,.int .u8 (dn:Int),.int .u8 (fi:Int),.slice aq nq cq]] W (fun e w'=> ∃a b c d,e= .returned (.agg #[a,b,c,d])∧MS w' W.heap.size a b c m∧SR qC 5 59 w' W.heap.size d V∧Gr W.heap.size W w')) (hLv:∀W,Calls Tryz.prog 5 #[] W (Ret W (.bool true))):
  Calls Tryz.prog 3 #[.agg #[.int .u8 (nx:Int),.int .u8 (ny:Int),bv,.int .i8 m0,.int .i8 m1,.int .i8 m2,.int .i8 m3,.int .u8 (dn:Int),.int .u8 (fi:Int),.slice aq nq cq]] w (Ret w (.bool true)):=by
 have HO:=Lib.hid hOf
 have HLv:=Lib.hid hLv
 have G:=Lib.hid g
 have HVB:=Lib.hid hVb
 have HVL:=Lib.hid hVl
 clear hOf hLv hVb hVl
 have hEn:(esM m.tris).length≤3000:=g.few
 have hTn:=g.nt
 have hPn:=g.np
 have HEN:=Lib.hid (esM_Ends g.good)
 have hEp:0<(esM m.tris).length:=by rw [(esM_perm m.tris).length_eq];exact stE_pos g.A.one
 clear g
 go_enter Tryz.func3,Tryz.ntmps3
 by_cases hq:100<nq
 ·have q0:(100:Int)<(nq:Int):=by omega
  go_wp2_with fail
  (refine rtt (HLv.out _) fun w1 hsz1 hc1 hf1 HG1=>?_;(try simp at hsz1);have hz1_0:w.heap.size<w1.heap.size:=(by omega))
  go_wp2
  go_ret
  exact⟨rfl,by exact gcc HG1 gzz⟩
 ·have q0:¬(100:Int)<(nq:Int):=by omega
  go_wp2_with fail
  refine(HO.out (by omega) _ (by exact gzz)).mono ?_
  rintro e w1 ⟨a0,b0,c0,d0,rfl,hms,hsv,hg1⟩
  have hsz1:=hg1.size
  (try simp at hsz1)
  obtain ⟨gp,cp,e1,_⟩:=hms.1.block (by intro e9;have h1:=G.out.A.one;obtain ⟨t,ht⟩:=List.exists_mem_of_ne_nil _ h1;have:=(G.out.good t ht).1;rw [e9]at this;simp at this)
  subst e1
  obtain ⟨at_,ct,rfl⟩:=hms.2.1.at
  obtain ⟨as_,cs,rfl⟩:=hms.2.2.at
  obtain ⟨gv,cv,e1,_⟩:=hsv.block (by intro e9;have:=HVL.out;rw [e9]at this;simp at this;omega)
  subst e1
  have HG1:=Lib.hid (show Gr w.heap.size w w1 from(show Gr w.heap.size w (w.alloc (.cells #[.int .u8 (nx:Int),.int .u8 (ny:Int),bv,.int .i8 m0,.int .i8 m1,.int .i8 m2,.int .i8 m3,.int .u8 (dn:Int),.int .u8 (fi:Int),.slice aq nq cq] 29))from by exact gzz).trans (hg1.mono (by first|omega|(simp;done)|(simp;omega))))
  have HF1:=Lib.hid (show FS w1 0 (.slice (some ⟨gp,0,none⟩) m.pts.length cp) (.slice at_ m.tris.length ct) (.slice as_ m.sides.length cs) (.slice (some ⟨gv,0,none⟩) V.length cv) m V from⟨⟨hms.1.mono (Nat.zero_le _),hms.2.1.mono (Nat.zero_le _),hms.2.2.mono (Nat.zero_le _)⟩,hsv.mono (Nat.zero_le _)⟩)
  clear hms hsv hg1 HO q0 hq
  have h01:w.heap.size<w1.heap.size:=by omega
  go_wp2_with fail
  have HF2:=Lib.hid (show FS (w1.alloc (.cells #[.slice (some ⟨gp,0,none⟩) m.pts.length cp,.slice at_ m.tris.length ct,.slice as_ m.sides.length cs,.slice (some ⟨gv,0,none⟩) V.length cv] 39)) 0 (.slice (some ⟨gp,0,none⟩) m.pts.length cp) (.slice at_ m.tris.length ct) (.slice as_ m.sides.length cs) (.slice (some ⟨gv,0,none⟩) V.length cv) m V from HF1.out.gr (by exact gzz))
  have HB2:=Lib.hid (show VB (w1.alloc (.cells #[.slice (some ⟨gp,0,none⟩) m.pts.length cp,.slice at_ m.tris.length ct,.slice as_ m.sides.length cs,.slice (some ⟨gv,0,none⟩) V.length cv] 39)) w1.heap.size [.slice (some ⟨gp,0,none⟩) m.pts.length cp,.slice at_ m.tris.length ct,.slice as_ m.sides.length cs,.slice (some ⟨gv,0,none⟩) V.length cv]from by exact vbb)
  have HG2:=Lib.hid (show Gr w.heap.size w (w1.alloc (.cells #[.slice (some ⟨gp,0,none⟩) m.pts.length cp,.slice at_ m.tris.length ct,.slice as_ m.sides.length cs,.slice (some ⟨gv,0,none⟩) V.length cv] 39))from by exact gcc HG1 gzz)
  refine(gf_Edges G.out _ _ _ _ HF2.out.1).mono ?_
  rintro e w4 ⟨ve,rfl,hEd,hg4⟩
  have hsz4:=hg4.size
  (try simp at hsz4)
  obtain ⟨ga,ce,e1,_⟩:=hEd.block (by intro e9;rw [e9]at hEp;simp at hEp)
  subst e1
  have HF4:=Lib.hid (HF2.out.gr hg4)
  have HB4:=Lib.hid (HB2.out.gr hg4 (by simp))
  have HG4:=Lib.hid (HG2.out.trans (hg4.mono (by simp;omega)))
  have HE4:=Lib.hid (show SR eC 4 44 w4 0 _ _ from hEd.mono (Nat.zero_le _))
  clear HF2 HB2 HG2 HF1 HG1 hEd hg4
  obtain ⟨fb,hfb⟩:∃q,w1.heap.size=q:=⟨_,rfl⟩
  rw [hfb]at HB4 ⊢
  have hf4:fb<w4.heap.size:=by omega
  have h04:w.heap.size<w4.heap.size:=by omega
  clear hfb hsz4 h01 hsz1
  have hgp:=(SR.own_lt HF4.out.1.1 (g:=gp) rfl).2
  have hgv:=(SR.own_lt HF4.out.2 (g:=gv) rfl).2
  have hga:=(SR.own_lt HE4.out (g:=ga) rfl).2
  obtain ⟨es,hes⟩:∃q,esM m.tris=q:=⟨_,rfl⟩
  rw [hes]at hEn hEp HE4 HVL HEN ⊢
  have HV9:=Lib.hid (show V.length=(esM m.tris).length from HVL.out.trans (congrArg List.length hes).symm)
  replace hes:=Lib.hid hes
  have hVe1:es.length≤V.length:=Nat.le_of_eq HVL.out.symm
  have hVe2:V.length≤es.length:=Nat.le_of_eq HVL.out
  go_wp2_with fail
  go_loopw [5] (fun s wr=> ∃i:Nat,i≤es.length∧s= .int .i64 i∧Hid (Gr w4.heap.size w4 wr)) (fun s _=>es.length - (intOf s).toNat)
  case atStart=>exact⟨0,Nat.zero_le _,rfl,Lib.hid (Gr.refl _ _)⟩
  case round=>
   obtain ⟨i,hi,rfl,HG⟩:=hrel
   by_cases hlt:i<es.length
   ·have q0:(i:Int)<(es.length:Int):=by omega
    have hi1:IntKind.i64.wrap ((i:Int)+1)=(i:Int)+1:=wrap64_id (by omega) (by omega)
    obtain ⟨ed,hed⟩:∃x,es[i]=x:=⟨_,rfl⟩
    obtain ⟨p,q,hp,hq,hpN,hqN⟩:=HEN.out ed (hed ▸ List.getElem_mem hlt)
    obtain ⟨ea,eb,el,er⟩:=ed
    dsimp only at hp hq
    subst hp hq
    have he9:(esM m.tris)[i]? =some ⟨(p:Int),(q:Int),el,er⟩:=by rw [hes.out,List.getElem?_eq_getElem hlt,hed]
    have HON:=Lib.hid (esM_lr m.tris _ (List.mem_of_getElem? he9))
    have HEF:=Lib.hid (fun (n:Nat) (h:el=(n:Int)∨er=(n:Int))=>edge_flow G.out he9 h V)
    obtain ⟨g',c',e1,_,_,_,_,hRe⟩:=HE4.out.block (by intro e9;rw [e9]at hlt;simp at hlt)
    cases e1
    have HRE:=Lib.hid (hRe.fE hlt hed)
    dsimp only at HRE
    clear hRe he9 hed
    have hiV:i<V.length:=by omega
    obtain ⟨r,hr⟩:∃r,V[i]=r:=⟨_,rfl⟩
    have HVI:=Lib.hid (show V.getD i 0=r from by rw [List.getD_eq_getElem?_getD,List.getElem?_eq_getElem hiV,hr];rfl)
    obtain ⟨g',c',e1,_,_,_,_,hRv⟩:=HF4.out.2.block (by intro e9;rw [e9]at hiV;simp at hiV)
    cases e1
    have HRV:=Lib.hid (hRv.fQ hiV hr)
    clear hRv hr
    obtain ⟨P,hP⟩:∃x,m.pts[p]=x:=⟨_,rfl⟩
    obtain ⟨Q,hQ⟩:∃x,m.pts[q]=x:=⟨_,rfl⟩
    obtain ⟨g',c',e1,_,_,_,_,hRp⟩:=HF4.out.1.1.block (by intro e9;rw [e9]at hpN;simp at hpN)
    cases e1
    have HRP:=Lib.hid (hRp.fPt hpN hP)
    have HRQ:=Lib.hid (hRp.fPt hqN hQ)
    clear hRp
    have HP4:=Lib.hid (And.intro ((G.out.pt hpN).1.symm.trans hP) (hP ▸ (G.out.pt hpN).1 ▸ (G.out.pt hpN).2:hp P≤4))
    have HQ4:=Lib.hid (And.intro ((G.out.pt hqN).1.symm.trans hQ) (hQ ▸ (G.out.pt hqN).1 ▸ (G.out.pt hqN).2:hp Q≤4))
    clear hP hQ
    have q1:(p:Int)<(m.pts.length:Int):=by omega
    have q2:(q:Int)<(m.pts.length:Int):=by omega
    have q3:(i:Int)<(V.length:Int):=by omega
    go_wp2_with fail
    go_loopw [6] (fun s wr=> ∃k:Nat,k≤2∧s= .int .i64 k∧Hid (Gr w4.heap.size w4 wr)) (fun s _=>2 - (intOf s).toNat)
    case atStart=>exact⟨0,by omega,rfl,HG⟩
    case round=>
     clear HG
     obtain ⟨k,hk,rfl,HG⟩:=hrel
     have hszr:=HG.out.size
     by_cases hk2:k<2
     ·obtain ⟨u0,u1,u2,u3⟩:=HRE.out
      rw [←HG.out.cell (p:=⟨ga,i*4,none⟩) hga]at u0
      rw [←HG.out.cell (p:=⟨ga,i*4+1,none⟩) hga]at u1
      rw [←HG.out.cell (p:=⟨ga,i*4+2,none⟩) hga]at u2
      rw [←HG.out.cell (p:=⟨ga,i*4+3,none⟩) hga]at u3
      rcases(show k=0∨k=1 by omega)with rfl|rfl
      ·have HS:=HON.out.1
       (try dsimp only at HS)
       rcases HS with h1|⟨n,t,kk,h1,ht,-⟩
       ·subst h1
        go_wp2
        go_roundw
        case rel=>exact⟨1,by omega,by go_num,HG⟩
        case measure=>simp [intOf]
       ·subst h1
        have hn0:¬(n:Int)<0:=by omega
        obtain ⟨t',ht',hfl⟩:=HEF.out n (.inl rfl)
        obtain rfl:=Option.some.inj (ht.symm.trans ht')
        clear ht'
        rw [HP4.out.1,HQ4.out.1,HVI.out]at hfl
        have HFL:=Lib.hid hfl
        have HT:=Lib.hid ht
        clear hfl ht
        have HFr:=Lib.hid (HF4.out.gr HG.out)
        have HBr:=Lib.hid (HB4.out.gr HG.out hf4)
        obtain ⟨b0,b1,b2,b3⟩:_∧_∧_∧_:=⟨HBr.out.c 0 _ rfl,HBr.out.c 1 _ rfl,HBr.out.c 2 _ rfl,HBr.out.c 3 _ rfl⟩
        have HCO:=Lib.hid (gf_OnT G.out n _ HT.out V HV9.out HVB.out _ _ _ _ _ HFr.out)
        go_wp2_with fail
        refine HCO.out.mono ?_
        rintro e w5 ⟨u,v,rfl,hu,hv,hg5⟩
        obtain ⟨au,cu,rfl⟩:=hu.at
        obtain ⟨av,cv',rfl⟩:=hv.at
        have hsz5:=hg5.size
        clear b0 b1 b2 b3 u0 u1 u2 u3
        go_upto_region 16 with fail
        have HB8:=Lib.hid (show VB (w5.alloc (.cells #[.slice au (fldX m V t).length cu,.slice av (fldY m V t).length cv'] 47)) w5.heap.size [.slice au (fldX m V t).length cu,.slice av (fldY m V t).length cv']from by exact vbb)
        have HG8:=Lib.hid (show Gr w4.heap.size w4 (w5.alloc (.cells #[.slice au (fldX m V t).length cu,.slice av (fldY m V t).length cv'] 47))from(HG.out.trans (hg5.mono (by omega))).trans (by exact gzz))
        have HU:=Lib.hid (show PL (w5.alloc (.cells #[.slice au (fldX m V t).length cu,.slice av (fldY m V t).length cv'] 47)) 0 _ _ from(hu.mono (Nat.zero_le _)).gr (by exact gzz))
        have HW:=Lib.hid (show PL (w5.alloc (.cells #[.slice au (fldX m V t).length cu,.slice av (fldY m V t).length cv'] 47)) 0 _ _ from(hv.mono (Nat.zero_le _)).gr (by exact gzz))
        have hz8:(w5.alloc (.cells #[.slice au (fldX m V t).length cu,.slice av (fldY m V t).length cv'] 47)).heap.size=w5.heap.size+1:=by simp
        generalize (w5.alloc (.cells #[.slice au (fldX m V t).length cu,.slice av (fldY m V t).length cv'] 47))=w8 at *
        generalize w5.heap.size=gb at *
        have hgb:w4.heap.size≤gb:=by omega
        have hb8:gb<w8.heap.size:=by omega
        have hw48:w4.heap.size≤w8.heap.size:=HG8.out.size
        clear hu hv hg5 hz8
        have HBf:=Lib.hid (HB4.out.gr HG8.out hf4)
        have y0:=HBf.out.c 0 _ rfl
        have y3:=HBf.out.c 3 _ rfl
        have y4:=HB8.out.c 0 _ rfl
        have y5:=HB8.out.c 1 _ rfl
        obtain ⟨u0,u1,-,-⟩:=HRE.out
        rw [←HG8.out.cell (p:=⟨ga,i*4,none⟩) hga]at u0
        rw [←HG8.out.cell (p:=⟨ga,i*4+1,none⟩) hga]at u1
        obtain ⟨r0,r1,r2,r3,r4⟩:=HRV.out
        rw [←HG8.out.cell (p:=⟨gv,i*5,none⟩) hgv]at r0
        rw [←HG8.out.cell (p:=⟨gv,i*5+1,none⟩) hgv]at r1
        rw [←HG8.out.cell (p:=⟨gv,i*5+2,none⟩) hgv]at r2
        rw [←HG8.out.cell (p:=⟨gv,i*5+3,none⟩) hgv]at r3
        rw [←HG8.out.cell (p:=⟨gv,i*5+4,none⟩) hgv]at r4
        obtain ⟨p0,p1,p2,p3,p4,p5,p6,p7,p8,p9⟩:=HRP.out
        rw [←HG8.out.cell (p:=⟨gp,p*10,none⟩) hgp]at p0
        rw [←HG8.out.cell (p:=⟨gp,p*10+1,none⟩) hgp]at p1
        rw [←HG8.out.cell (p:=⟨gp,p*10+2,none⟩) hgp]at p2
        rw [←HG8.out.cell (p:=⟨gp,p*10+3,none⟩) hgp]at p3
        rw [←HG8.out.cell (p:=⟨gp,p*10+4,none⟩) hgp]at p4
        rw [←HG8.out.cell (p:=⟨gp,p*10+5,none⟩) hgp]at p5
        rw [←HG8.out.cell (p:=⟨gp,p*10+6,none⟩) hgp]at p6
        rw [←HG8.out.cell (p:=⟨gp,p*10+7,none⟩) hgp]at p7
        rw [←HG8.out.cell (p:=⟨gp,p*10+8,none⟩) hgp]at p8
        rw [←HG8.out.cell (p:=⟨gp,p*10+9,none⟩) hgp]at p9
        obtain ⟨s0,s1,s2,s3,s4,s5,s6,s7,s8,s9⟩:=HRQ.out
        rw [←HG8.out.cell (p:=⟨gp,q*10,none⟩) hgp]at s0
        rw [←HG8.out.cell (p:=⟨gp,q*10+1,none⟩) hgp]at s1
        rw [←HG8.out.cell (p:=⟨gp,q*10+2,none⟩) hgp]at s2
        rw [←HG8.out.cell (p:=⟨gp,q*10+3,none⟩) hgp]at s3
        rw [←HG8.out.cell (p:=⟨gp,q*10+4,none⟩) hgp]at s4
        rw [←HG8.out.cell (p:=⟨gp,q*10+5,none⟩) hgp]at s5
        rw [←HG8.out.cell (p:=⟨gp,q*10+6,none⟩) hgp]at s6
        rw [←HG8.out.cell (p:=⟨gp,q*10+7,none⟩) hgp]at s7
        rw [←HG8.out.cell (p:=⟨gp,q*10+8,none⟩) hgp]at s8
        rw [←HG8.out.cell (p:=⟨gp,q*10+9,none⟩) hgp]at s9
        have hd:=fld_d1 m V t
        have htt:=fld_tot G.out t (List.mem_of_getElem? HT.out) V HV9.out HVB.out
        have HFW:=Lib.hid (fun W (hx:PL W 0 _ (fldX m V t)) (hy:PL W 0 _ (fldY m V t))=>HFL.out ▸ it_Flow1 (fldX m V t) (fldY m V t) (.slice au (fldX m V t).length cu) (.slice av (fldY m V t).length cv') P Q W hx hy hd.1 hd.2 (by omega) (by omega) (by have:=HP4.out.2;omega) (by have:=HQ4.out.2;omega))
        clear hd htt
        have e1:fb<w8.heap.size:=by omega
        have e2:ga<w8.heap.size:=by omega
        have e3:gp<w8.heap.size:=by omega
        have e4:gv<w8.heap.size:=by omega
        refine wp_region_held_drew (S:=(fun w'=>w'.cell? ⟨fb,0,none⟩=some (.slice (some ⟨gp,0,none⟩) m.pts.length cp)∧w'.cell? ⟨fb,3,none⟩=some (.slice (some ⟨gv,0,none⟩) V.length cv)∧w'.cell? ⟨gb,0,none⟩=some (.slice au (fldX m V t).length cu)∧w'.cell? ⟨gb,1,none⟩=some (.slice av (fldY m V t).length cv')∧w'.cell? ⟨ga,i*4,none⟩=some (.int .i64 (p:Int))∧w'.cell? ⟨ga,i*4+1,none⟩=some (.int .i64 (q:Int))∧w'.cell? ⟨gv,i*5,none⟩=some (.int .u64 (lowN (sz r.num)))∧w'.cell? ⟨gv,i*5+1,none⟩=some (.string (bigS (sz r.num)))∧w'.cell? ⟨gv,i*5+2,none⟩=some (.bool (ng r.num))∧w'.cell? ⟨gv,i*5+3,none⟩=some (.int .u64 (lowN (fm r)))∧w'.cell? ⟨gv,i*5+4,none⟩=some (.string (bigS (fm r)))∧w'.cell? ⟨gp,p*10,none⟩=some (.int .u64 (lowN (sz P.x.num)))∧w'.cell? ⟨gp,p*10+1,none⟩=some (.string (bigS (sz P.x.num)))∧w'.cell? ⟨gp,p*10+2,none⟩=some (.bool (ng P.x.num))∧w'.cell? ⟨gp,p*10+3,none⟩=some (.int .u64 (lowN (fm P.x)))∧w'.cell? ⟨gp,p*10+4,none⟩=some (.string (bigS (fm P.x)))∧w'.cell? ⟨gp,p*10+5,none⟩=some (.int .u64 (lowN (sz P.y.num)))∧w'.cell? ⟨gp,p*10+6,none⟩=some (.string (bigS (sz P.y.num)))∧w'.cell? ⟨gp,p*10+7,none⟩=some (.bool (ng P.y.num))∧w'.cell? ⟨gp,p*10+8,none⟩=some (.int .u64 (lowN (fm P.y)))∧w'.cell? ⟨gp,p*10+9,none⟩=some (.string (bigS (fm P.y)))∧w'.cell? ⟨gp,q*10,none⟩=some (.int .u64 (lowN (sz Q.x.num)))∧w'.cell? ⟨gp,q*10+1,none⟩=some (.string (bigS (sz Q.x.num)))∧w'.cell? ⟨gp,q*10+2,none⟩=some (.bool (ng Q.x.num))∧w'.cell? ⟨gp,q*10+3,none⟩=some (.int .u64 (lowN (fm Q.x)))∧w'.cell? ⟨gp,q*10+4,none⟩=some (.string (bigS (fm Q.x)))∧w'.cell? ⟨gp,q*10+5,none⟩=some (.int .u64 (lowN (sz Q.y.num)))∧w'.cell? ⟨gp,q*10+6,none⟩=some (.string (bigS (sz Q.y.num)))∧w'.cell? ⟨gp,q*10+7,none⟩=some (.bool (ng Q.y.num))∧w'.cell? ⟨gp,q*10+8,none⟩=some (.int .u64 (lowN (fm Q.y)))∧w'.cell? ⟨gp,q*10+9,none⟩=some (.string (bigS (fm Q.y))))) (by kernel_rfl) ?_ (fun hHeld=>?_)
        ·simp [go_sem, *]
        refine tk 0 (some 63) (.int .i64 0) ?_
        try simp only [pS]
        refine tk 1 (some 64) (.bool false) ?_
        try simp only [pS]
        refine tk 2 (some 65) (.bool false) ?_
        try simp only [pS]
        refine tk 3 (some 66) (.pointer (some ⟨gb,0,none⟩)) ?_
        try simp only [pS]
        refine tk 4 (some 67) (.slice au (fldX m V t).length cu) ?_
        try simp only [pS]
        refine tk 5 (some 68) (.pointer (some ⟨gb,1,none⟩)) ?_
        try simp only [pS]
        refine tk 6 (some 69) (.slice av (fldY m V t).length cv') ?_
        try simp only [pS]
        refine tk 7 (some 70) (.pointer (some ⟨fb,0,none⟩)) ?_
        try simp only [pS]
        refine tk 8 (some 71) (.pointer (some ⟨fb,0,none⟩)) ?_
        try simp only [pS]
        refine tk 9 (some 72) (.slice (some ⟨gp,0,none⟩) m.pts.length cp) ?_
        try simp only [pS]
        refine tk 10 (some 73) (.slice (some ⟨ga,0,none⟩) es.length ce) ?_
        try simp only [pS]
        refine tk 11 (some 74) (.int .i64 (i:Int)) ?_
        try simp only [pS]
        refine tk 12 (some 75) (.pointer (some ⟨ga,i*4,none⟩)) ?_
        try simp only [pS]
        refine tk 13 (some 76) (.pointer (some ⟨ga,i*4,none⟩)) ?_
        try simp only [pS]
        refine tk 14 (some 77) (.int .i64 (p:Int)) ?_
        try simp only [pS]
        refine tk 15 (some 78) (.pointer (some ⟨gp,p*10,none⟩)) ?_
        try simp only [pS]
        refine tk 16 (some 79) (.agg #[.int .u64 (lowN (sz P.x.num)),.string (bigS (sz P.x.num)),.bool (ng P.x.num),.int .u64 (lowN (fm P.x)),.string (bigS (fm P.x)),.int .u64 (lowN (sz P.y.num)),.string (bigS (sz P.y.num)),.bool (ng P.y.num),.int .u64 (lowN (fm P.y)),.string (bigS (fm P.y))]) ?_
        try simp only [pS]
        refine tk 18 (some 81) (.pointer (some ⟨fb,0,none⟩)) ?_
        try simp only [pS]
        refine tk 19 (some 82) (.pointer (some ⟨fb,0,none⟩)) ?_
        try simp only [pS]
        refine tk 20 (some 83) (.slice (some ⟨gp,0,none⟩) m.pts.length cp) ?_
        try simp only [pS]
        refine tk 21 (some 84) (.slice (some ⟨ga,0,none⟩) es.length ce) ?_
        try simp only [pS]
        refine tk 22 (some 85) (.int .i64 (i:Int)) ?_
        try simp only [pS]
        refine tk 23 (some 86) (.pointer (some ⟨ga,i*4,none⟩)) ?_
        try simp only [pS]
        refine tk 24 (some 87) (.pointer (some ⟨ga,i*4+1,none⟩)) ?_
        try simp only [pS]
        refine tk 25 (some 88) (.int .i64 (q:Int)) ?_
        try simp only [pS]
        refine tk 26 (some 89) (.pointer (some ⟨gp,q*10,none⟩)) ?_
        try simp only [pS]
        refine tk 27 (some 90) (.agg #[.int .u64 (lowN (sz Q.x.num)),.string (bigS (sz Q.x.num)),.bool (ng Q.x.num),.int .u64 (lowN (fm Q.x)),.string (bigS (fm Q.x)),.int .u64 (lowN (sz Q.y.num)),.string (bigS (sz Q.y.num)),.bool (ng Q.y.num),.int .u64 (lowN (fm Q.y)),.string (bigS (fm Q.y))]) ?_
        try simp only [pS]
        refine tk 30 (some 93) (.pointer (some ⟨fb,3,none⟩)) ?_
        try simp only [pS]
        refine tk 31 (some 94) (.slice (some ⟨gv,0,none⟩) V.length cv) ?_
        try simp only [pS]
        refine tk 32 (some 95) (.int .i64 (i:Int)) ?_
        try simp only [pS]
        refine tk 33 (some 96) (.pointer (some ⟨gv,i*5,none⟩)) ?_
        try simp only [pS]
        refine tk 34 (some 97) (.agg #[.int .u64 (lowN (sz r.num)),.string (bigS (sz r.num)),.bool (ng r.num),.int .u64 (lowN (fm r)),.string (bigS (fm r))]) ?_
        try simp only [pS]
        refine rd 17 (fun K hK=>?_)
        go_simp
        (refine rtt ((fpair_1 P _)) fun w11 hsz11 hc11 hf11 HG11=>?_;(try simp at hsz11);have hy11_0:gb<w11.heap.size:=(by omega);have hy11_1:fb<w11.heap.size:=(by omega);have hy11_2:ga<w11.heap.size:=(by omega);have hy11_3:gp<w11.heap.size:=(by omega);have hy11_4:gv<w11.heap.size:=(by omega))
        (try dsimp only)
        refine hK.out _ _ ?_ (fun hQ1=>?_)
        ·(first|exact trivial|((try dsimp only);simp [go_sem, *]))
        clear hK K hHeld
        try simp only [pS]
        refine rd 28 (fun K hK=>?_)
        go_simp
        (refine rtt ((fpair_1 Q _)) fun w12 hsz12 hc12 hf12 HG12=>?_;(try simp at hsz12);have hy12_0:gb<w12.heap.size:=(by omega);have hy12_1:fb<w12.heap.size:=(by omega);have hy12_2:ga<w12.heap.size:=(by omega);have hy12_3:gp<w12.heap.size:=(by omega);have hy12_4:gv<w12.heap.size:=(by omega))
        (try dsimp only)
        refine hK.out _ _ ?_ (fun hQ2=>?_)
        ·(first|exact trivial|((try dsimp only);simp [go_sem, *]))
        clear hK K hQ1
        try simp only [pS]
        refine rd 29 (fun K hK=>?_)
        go_simp
        (refine rtt (HFW.out _ (HU.out.gr (by exact gcc HG12 (gcc HG11 gzz))) (HW.out.gr (by exact gcc HG12 (gcc HG11 gzz)))) fun w13 hsz13 hc13 hf13 HG13=>?_;(try simp at hsz13);have hy13_0:gb<w13.heap.size:=(by omega);have hy13_1:fb<w13.heap.size:=(by omega);have hy13_2:ga<w13.heap.size:=(by omega);have hy13_3:gp<w13.heap.size:=(by omega);have hy13_4:gv<w13.heap.size:=(by omega))
        (try dsimp only)
        refine hK.out _ _ ?_ (fun hQ3=>?_)
        ·(first|exact trivial|((try dsimp only);simp [go_sem, *]))
        clear hK K hQ2
        try simp only [pS]
        refine tk 35 (some 98) (.bool false) ?_
        try simp only [pS]
        refine tk 36 (some 99) (.bool false) ?_
        try simp only [pS]
        refine wpAnyH_done (by kernel_rfl) ?_ _
        clear r0 r1 r2 r3 r4 p0 p1 p2 p3 p4 p5 p6 p7 p8 p9 s0 s1 s2 s3 s4 s5 s6 s7 s8 s9 y0 y3 y4 y5 u0 u1
        go_wp2
        go_roundw
        case rel=>exact⟨1,by omega,by go_num,Lib.hid (by exact gcc HG13 (gcc HG12 (gcc HG11 (gcc HG8 gzz))))⟩
        case measure=>simp [intOf]
      ·have HS:=HON.out.2
       (try dsimp only at HS)
       rcases HS with h1|⟨n,t,kk,h1,ht,-⟩
       ·subst h1
        go_wp2
        go_roundw
        case rel=>exact⟨2,by omega,by go_num,HG⟩
        case measure=>simp [intOf]
       ·subst h1
        have hn0:¬(n:Int)<0:=by omega
        obtain ⟨t',ht',hfl⟩:=HEF.out n (.inr rfl)
        obtain rfl:=Option.some.inj (ht.symm.trans ht')
        clear ht'
        rw [HP4.out.1,HQ4.out.1,HVI.out]at hfl
        have HFL:=Lib.hid hfl
        have HT:=Lib.hid ht
        clear hfl ht
        have HFr:=Lib.hid (HF4.out.gr HG.out)
        have HBr:=Lib.hid (HB4.out.gr HG.out hf4)
        obtain ⟨b0,b1,b2,b3⟩:_∧_∧_∧_:=⟨HBr.out.c 0 _ rfl,HBr.out.c 1 _ rfl,HBr.out.c 2 _ rfl,HBr.out.c 3 _ rfl⟩
        have HCO:=Lib.hid (gf_OnT G.out n _ HT.out V HV9.out HVB.out _ _ _ _ _ HFr.out)
        go_wp2_with fail
        refine HCO.out.mono ?_
        rintro e w5 ⟨u,v,rfl,hu,hv,hg5⟩
        obtain ⟨au,cu,rfl⟩:=hu.at
        obtain ⟨av,cv',rfl⟩:=hv.at
        have hsz5:=hg5.size
        clear b0 b1 b2 b3 u0 u1 u2 u3
        go_upto_region 16 with fail
        have HB8:=Lib.hid (show VB (w5.alloc (.cells #[.slice au (fldX m V t).length cu,.slice av (fldY m V t).length cv'] 47)) w5.heap.size [.slice au (fldX m V t).length cu,.slice av (fldY m V t).length cv']from by exact vbb)
        have HG8:=Lib.hid (show Gr w4.heap.size w4 (w5.alloc (.cells #[.slice au (fldX m V t).length cu,.slice av (fldY m V t).length cv'] 47))from(HG.out.trans (hg5.mono (by omega))).trans (by exact gzz))
        have HU:=Lib.hid (show PL (w5.alloc (.cells #[.slice au (fldX m V t).length cu,.slice av (fldY m V t).length cv'] 47)) 0 _ _ from(hu.mono (Nat.zero_le _)).gr (by exact gzz))
        have HW:=Lib.hid (show PL (w5.alloc (.cells #[.slice au (fldX m V t).length cu,.slice av (fldY m V t).length cv'] 47)) 0 _ _ from(hv.mono (Nat.zero_le _)).gr (by exact gzz))
        have hz8:(w5.alloc (.cells #[.slice au (fldX m V t).length cu,.slice av (fldY m V t).length cv'] 47)).heap.size=w5.heap.size+1:=by simp
        generalize (w5.alloc (.cells #[.slice au (fldX m V t).length cu,.slice av (fldY m V t).length cv'] 47))=w8 at *
        generalize w5.heap.size=gb at *
        have hgb:w4.heap.size≤gb:=by omega
        have hb8:gb<w8.heap.size:=by omega
        have hw48:w4.heap.size≤w8.heap.size:=HG8.out.size
        clear hu hv hg5 hz8
        have HBf:=Lib.hid (HB4.out.gr HG8.out hf4)
        have y0:=HBf.out.c 0 _ rfl
        have y3:=HBf.out.c 3 _ rfl
        have y4:=HB8.out.c 0 _ rfl
        have y5:=HB8.out.c 1 _ rfl
        obtain ⟨u0,u1,-,-⟩:=HRE.out
        rw [←HG8.out.cell (p:=⟨ga,i*4,none⟩) hga]at u0
        rw [←HG8.out.cell (p:=⟨ga,i*4+1,none⟩) hga]at u1
        obtain ⟨r0,r1,r2,r3,r4⟩:=HRV.out
        rw [←HG8.out.cell (p:=⟨gv,i*5,none⟩) hgv]at r0
        rw [←HG8.out.cell (p:=⟨gv,i*5+1,none⟩) hgv]at r1
        rw [←HG8.out.cell (p:=⟨gv,i*5+2,none⟩) hgv]at r2
        rw [←HG8.out.cell (p:=⟨gv,i*5+3,none⟩) hgv]at r3
        rw [←HG8.out.cell (p:=⟨gv,i*5+4,none⟩) hgv]at r4
        obtain ⟨p0,p1,p2,p3,p4,p5,p6,p7,p8,p9⟩:=HRP.out
        rw [←HG8.out.cell (p:=⟨gp,p*10,none⟩) hgp]at p0
        rw [←HG8.out.cell (p:=⟨gp,p*10+1,none⟩) hgp]at p1
        rw [←HG8.out.cell (p:=⟨gp,p*10+2,none⟩) hgp]at p2
        rw [←HG8.out.cell (p:=⟨gp,p*10+3,none⟩) hgp]at p3
        rw [←HG8.out.cell (p:=⟨gp,p*10+4,none⟩) hgp]at p4
        rw [←HG8.out.cell (p:=⟨gp,p*10+5,none⟩) hgp]at p5
        rw [←HG8.out.cell (p:=⟨gp,p*10+6,none⟩) hgp]at p6
        rw [←HG8.out.cell (p:=⟨gp,p*10+7,none⟩) hgp]at p7
        rw [←HG8.out.cell (p:=⟨gp,p*10+8,none⟩) hgp]at p8
        rw [←HG8.out.cell (p:=⟨gp,p*10+9,none⟩) hgp]at p9
        obtain ⟨s0,s1,s2,s3,s4,s5,s6,s7,s8,s9⟩:=HRQ.out
        rw [←HG8.out.cell (p:=⟨gp,q*10,none⟩) hgp]at s0
        rw [←HG8.out.cell (p:=⟨gp,q*10+1,none⟩) hgp]at s1
        rw [←HG8.out.cell (p:=⟨gp,q*10+2,none⟩) hgp]at s2
        rw [←HG8.out.cell (p:=⟨gp,q*10+3,none⟩) hgp]at s3
        rw [←HG8.out.cell (p:=⟨gp,q*10+4,none⟩) hgp]at s4
        rw [←HG8.out.cell (p:=⟨gp,q*10+5,none⟩) hgp]at s5
        rw [←HG8.out.cell (p:=⟨gp,q*10+6,none⟩) hgp]at s6
        rw [←HG8.out.cell (p:=⟨gp,q*10+7,none⟩) hgp]at s7
        rw [←HG8.out.cell (p:=⟨gp,q*10+8,none⟩) hgp]at s8
        rw [←HG8.out.cell (p:=⟨gp,q*10+9,none⟩) hgp]at s9
        have hd:=fld_d1 m V t
        have htt:=fld_tot G.out t (List.mem_of_getElem? HT.out) V HV9.out HVB.out
        have HFW:=Lib.hid (fun W (hx:PL W 0 _ (fldX m V t)) (hy:PL W 0 _ (fldY m V t))=>HFL.out ▸ it_Flow1 (fldX m V t) (fldY m V t) (.slice au (fldX m V t).length cu) (.slice av (fldY m V t).length cv') P Q W hx hy hd.1 hd.2 (by omega) (by omega) (by have:=HP4.out.2;omega) (by have:=HQ4.out.2;omega))
        clear hd htt
        have e1:fb<w8.heap.size:=by omega
        have e2:ga<w8.heap.size:=by omega
        have e3:gp<w8.heap.size:=by omega
        have e4:gv<w8.heap.size:=by omega
        refine wp_region_held_drew (S:=(fun w'=>w'.cell? ⟨fb,0,none⟩=some (.slice (some ⟨gp,0,none⟩) m.pts.length cp)∧w'.cell? ⟨fb,3,none⟩=some (.slice (some ⟨gv,0,none⟩) V.length cv)∧w'.cell? ⟨gb,0,none⟩=some (.slice au (fldX m V t).length cu)∧w'.cell? ⟨gb,1,none⟩=some (.slice av (fldY m V t).length cv')∧w'.cell? ⟨ga,i*4,none⟩=some (.int .i64 (p:Int))∧w'.cell? ⟨ga,i*4+1,none⟩=some (.int .i64 (q:Int))∧w'.cell? ⟨gv,i*5,none⟩=some (.int .u64 (lowN (sz r.num)))∧w'.cell? ⟨gv,i*5+1,none⟩=some (.string (bigS (sz r.num)))∧w'.cell? ⟨gv,i*5+2,none⟩=some (.bool (ng r.num))∧w'.cell? ⟨gv,i*5+3,none⟩=some (.int .u64 (lowN (fm r)))∧w'.cell? ⟨gv,i*5+4,none⟩=some (.string (bigS (fm r)))∧w'.cell? ⟨gp,p*10,none⟩=some (.int .u64 (lowN (sz P.x.num)))∧w'.cell? ⟨gp,p*10+1,none⟩=some (.string (bigS (sz P.x.num)))∧w'.cell? ⟨gp,p*10+2,none⟩=some (.bool (ng P.x.num))∧w'.cell? ⟨gp,p*10+3,none⟩=some (.int .u64 (lowN (fm P.x)))∧w'.cell? ⟨gp,p*10+4,none⟩=some (.string (bigS (fm P.x)))∧w'.cell? ⟨gp,p*10+5,none⟩=some (.int .u64 (lowN (sz P.y.num)))∧w'.cell? ⟨gp,p*10+6,none⟩=some (.string (bigS (sz P.y.num)))∧w'.cell? ⟨gp,p*10+7,none⟩=some (.bool (ng P.y.num))∧w'.cell? ⟨gp,p*10+8,none⟩=some (.int .u64 (lowN (fm P.y)))∧w'.cell? ⟨gp,p*10+9,none⟩=some (.string (bigS (fm P.y)))∧w'.cell? ⟨gp,q*10,none⟩=some (.int .u64 (lowN (sz Q.x.num)))∧w'.cell? ⟨gp,q*10+1,none⟩=some (.string (bigS (sz Q.x.num)))∧w'.cell? ⟨gp,q*10+2,none⟩=some (.bool (ng Q.x.num))∧w'.cell? ⟨gp,q*10+3,none⟩=some (.int .u64 (lowN (fm Q.x)))∧w'.cell? ⟨gp,q*10+4,none⟩=some (.string (bigS (fm Q.x)))∧w'.cell? ⟨gp,q*10+5,none⟩=some (.int .u64 (lowN (sz Q.y.num)))∧w'.cell? ⟨gp,q*10+6,none⟩=some (.string (bigS (sz Q.y.num)))∧w'.cell? ⟨gp,q*10+7,none⟩=some (.bool (ng Q.y.num))∧w'.cell? ⟨gp,q*10+8,none⟩=some (.int .u64 (lowN (fm Q.y)))∧w'.cell? ⟨gp,q*10+9,none⟩=some (.string (bigS (fm Q.y))))) (by kernel_rfl) ?_ (fun hHeld=>?_)
        ·simp [go_sem, *]
        refine tk 0 (some 63) (.int .i64 0) ?_
        try simp only [pS]
        refine tk 1 (some 64) (.bool false) ?_
        try simp only [pS]
        refine tk 2 (some 65) (.bool false) ?_
        try simp only [pS]
        refine tk 3 (some 66) (.pointer (some ⟨gb,0,none⟩)) ?_
        try simp only [pS]
        refine tk 4 (some 67) (.slice au (fldX m V t).length cu) ?_
        try simp only [pS]
        refine tk 5 (some 68) (.pointer (some ⟨gb,1,none⟩)) ?_
        try simp only [pS]
        refine tk 6 (some 69) (.slice av (fldY m V t).length cv') ?_
        try simp only [pS]
        refine tk 7 (some 70) (.pointer (some ⟨fb,0,none⟩)) ?_
        try simp only [pS]
        refine tk 8 (some 71) (.pointer (some ⟨fb,0,none⟩)) ?_
        try simp only [pS]
        refine tk 9 (some 72) (.slice (some ⟨gp,0,none⟩) m.pts.length cp) ?_
        try simp only [pS]
        refine tk 10 (some 73) (.slice (some ⟨ga,0,none⟩) es.length ce) ?_
        try simp only [pS]
        refine tk 11 (some 74) (.int .i64 (i:Int)) ?_
        try simp only [pS]
        refine tk 12 (some 75) (.pointer (some ⟨ga,i*4,none⟩)) ?_
        try simp only [pS]
        refine tk 13 (some 76) (.pointer (some ⟨ga,i*4,none⟩)) ?_
        try simp only [pS]
        refine tk 14 (some 77) (.int .i64 (p:Int)) ?_
        try simp only [pS]
        refine tk 15 (some 78) (.pointer (some ⟨gp,p*10,none⟩)) ?_
        try simp only [pS]
        refine tk 16 (some 79) (.agg #[.int .u64 (lowN (sz P.x.num)),.string (bigS (sz P.x.num)),.bool (ng P.x.num),.int .u64 (lowN (fm P.x)),.string (bigS (fm P.x)),.int .u64 (lowN (sz P.y.num)),.string (bigS (sz P.y.num)),.bool (ng P.y.num),.int .u64 (lowN (fm P.y)),.string (bigS (fm P.y))]) ?_
        try simp only [pS]
        refine tk 18 (some 81) (.pointer (some ⟨fb,0,none⟩)) ?_
        try simp only [pS]
        refine tk 19 (some 82) (.pointer (some ⟨fb,0,none⟩)) ?_
        try simp only [pS]
        refine tk 20 (some 83) (.slice (some ⟨gp,0,none⟩) m.pts.length cp) ?_
        try simp only [pS]
        refine tk 21 (some 84) (.slice (some ⟨ga,0,none⟩) es.length ce) ?_
        try simp only [pS]
        refine tk 22 (some 85) (.int .i64 (i:Int)) ?_
        try simp only [pS]
        refine tk 23 (some 86) (.pointer (some ⟨ga,i*4,none⟩)) ?_
        try simp only [pS]
        refine tk 24 (some 87) (.pointer (some ⟨ga,i*4+1,none⟩)) ?_
        try simp only [pS]
        refine tk 25 (some 88) (.int .i64 (q:Int)) ?_
        try simp only [pS]
        refine tk 26 (some 89) (.pointer (some ⟨gp,q*10,none⟩)) ?_
        try simp only [pS]
        refine tk 27 (some 90) (.agg #[.int .u64 (lowN (sz Q.x.num)),.string (bigS (sz Q.x.num)),.bool (ng Q.x.num),.int .u64 (lowN (fm Q.x)),.string (bigS (fm Q.x)),.int .u64 (lowN (sz Q.y.num)),.string (bigS (sz Q.y.num)),.bool (ng Q.y.num),.int .u64 (lowN (fm Q.y)),.string (bigS (fm Q.y))]) ?_
        try simp only [pS]
        refine tk 30 (some 93) (.pointer (some ⟨fb,3,none⟩)) ?_
        try simp only [pS]
        refine tk 31 (some 94) (.slice (some ⟨gv,0,none⟩) V.length cv) ?_
        try simp only [pS]
        refine tk 32 (some 95) (.int .i64 (i:Int)) ?_
        try simp only [pS]
        refine tk 33 (some 96) (.pointer (some ⟨gv,i*5,none⟩)) ?_
        try simp only [pS]
        refine tk 34 (some 97) (.agg #[.int .u64 (lowN (sz r.num)),.string (bigS (sz r.num)),.bool (ng r.num),.int .u64 (lowN (fm r)),.string (bigS (fm r))]) ?_
        try simp only [pS]
        refine rd 17 (fun K hK=>?_)
        go_simp
        (refine rtt ((fpair_1 P _)) fun w11 hsz11 hc11 hf11 HG11=>?_;(try simp at hsz11);have hy11_0:gb<w11.heap.size:=(by omega);have hy11_1:fb<w11.heap.size:=(by omega);have hy11_2:ga<w11.heap.size:=(by omega);have hy11_3:gp<w11.heap.size:=(by omega);have hy11_4:gv<w11.heap.size:=(by omega))
        (try dsimp only)
        refine hK.out _ _ ?_ (fun hQ1=>?_)
        ·(first|exact trivial|((try dsimp only);simp [go_sem, *]))
        clear hK K hHeld
        try simp only [pS]
        refine rd 28 (fun K hK=>?_)
        go_simp
        (refine rtt ((fpair_1 Q _)) fun w12 hsz12 hc12 hf12 HG12=>?_;(try simp at hsz12);have hy12_0:gb<w12.heap.size:=(by omega);have hy12_1:fb<w12.heap.size:=(by omega);have hy12_2:ga<w12.heap.size:=(by omega);have hy12_3:gp<w12.heap.size:=(by omega);have hy12_4:gv<w12.heap.size:=(by omega))
        (try dsimp only)
        refine hK.out _ _ ?_ (fun hQ2=>?_)
        ·(first|exact trivial|((try dsimp only);simp [go_sem, *]))
        clear hK K hQ1
        try simp only [pS]
        refine rd 29 (fun K hK=>?_)
        go_simp
        (refine rtt (HFW.out _ (HU.out.gr (by exact gcc HG12 (gcc HG11 gzz))) (HW.out.gr (by exact gcc HG12 (gcc HG11 gzz)))) fun w13 hsz13 hc13 hf13 HG13=>?_;(try simp at hsz13);have hy13_0:gb<w13.heap.size:=(by omega);have hy13_1:fb<w13.heap.size:=(by omega);have hy13_2:ga<w13.heap.size:=(by omega);have hy13_3:gp<w13.heap.size:=(by omega);have hy13_4:gv<w13.heap.size:=(by omega))
        (try dsimp only)
        refine hK.out _ _ ?_ (fun hQ3=>?_)
        ·(first|exact trivial|((try dsimp only);simp [go_sem, *]))
        clear hK K hQ2
        try simp only [pS]
        refine tk 35 (some 98) (.bool false) ?_
        try simp only [pS]
        refine tk 36 (some 99) (.bool false) ?_
        try simp only [pS]
        refine wpAnyH_done (by kernel_rfl) ?_ _
        clear r0 r1 r2 r3 r4 p0 p1 p2 p3 p4 p5 p6 p7 p8 p9 s0 s1 s2 s3 s4 s5 s6 s7 s8 s9 y0 y3 y4 y5 u0 u1
        go_wp2
        go_roundw
        case rel=>exact⟨2,by omega,by go_num,Lib.hid (by exact gcc HG13 (gcc HG12 (gcc HG11 (gcc HG8 gzz))))⟩
        case measure=>simp [intOf]
     ·have hk22:k=2:=by omega
      subst hk22
      go_wp2
      go_roundw
      case rel=>exact⟨i+1,by omega,by go_num,HG⟩
      case measure=>simp [intOf];omega
   ·clear hi
    have HFr:=Lib.hid (HF4.out.gr HG.out)
    have HBr:=Lib.hid (HB4.out.gr HG.out hf4)
    have hszr:=HG.out.size
    obtain ⟨b0,b1,b2,b3⟩:_∧_∧_∧_:=⟨HBr.out.c 0 _ rfl,HBr.out.c 1 _ rfl,HBr.out.c 2 _ rfl,HBr.out.c 3 _ rfl⟩
    have HCN:=Lib.hid (gf_Net G.out V HV9.out HVB.out _ _ _ _ wr HFr.out)
    go_wp2_with fail
    refine HCN.out.mono ?_
    rintro e w5 ⟨vn,rfl,hn5,hg5⟩
    have hsz5:=hg5.size
    obtain ⟨ns,hns⟩:∃q,(m.tris.map fun t=>netR V (partsT (esM m.tris) t))=q:=⟨_,rfl⟩
    rw [hns]at hn5
    have hnl:ns.length=m.tris.length:=by rw [←hns,List.length_map]
    have HNS:=Lib.hid hns
    clear hns
    obtain ⟨t0,ht0⟩:=List.exists_mem_of_ne_nil _ G.out.A.one
    have hT0:0<m.tris.length:=List.length_pos_of_mem ht0
    clear ht0 t0
    obtain ⟨gn,cn,en,_⟩:=hn5.block (by intro e9;rw [e9]at hnl;simp at hnl;omega)
    rw [hnl]at en
    subst en
    have HN5:=Lib.hid (show SR qC 5 59 w5 0 _ ns from hn5.mono (Nat.zero_le _))
    have hgn:=(SR.own_lt hn5 (g:=gn) rfl).2
    have HNL:=Lib.hid hnl
    clear hn5 hnl b0 b1 b2 b3
    have HG5:=Lib.hid (HG.out.trans (hg5.mono (by omega)))
    have HB5:=Lib.hid (HB4.out.gr HG5.out hf4)
    have HF5:=Lib.hid (HF4.out.gr HG5.out)
    have c1:=HB5.out.c 1 _ rfl
    have hf5:fb<w5.heap.size:=by omega
    clear hg5 HG HFr HBr hszr
    go_wp2_with fail
    clear c1
    go_loopw [12] (fun s wr=> ∃j:Nat,j≤m.tris.length∧s= .int .i64 j∧Hid (Gr w5.heap.size w5 wr)) (fun s _=>m.tris.length - (intOf s).toNat)
    case atStart=>exact⟨0,Nat.zero_le _,rfl,Lib.hid (Gr.refl _ _)⟩
    case round=>
     obtain ⟨j,hj,rfl,HG⟩:=hrel
     have hszr:=HG.out.size
     have HFr:=Lib.hid (HF5.out.gr HG.out)
     have HBr:=Lib.hid (HB5.out.gr HG.out hf5)
     obtain ⟨b0,b1,b2,b3⟩:_∧_∧_∧_:=⟨HBr.out.c 0 _ rfl,HBr.out.c 1 _ rfl,HBr.out.c 2 _ rfl,HBr.out.c 3 _ rfl⟩
     by_cases hlt:j<m.tris.length
     ·have q0:(j:Int)<(m.tris.length:Int):=by omega
      have hj1:IntKind.i64.wrap ((j:Int)+1)=(j:Int)+1:=wrap64_id (by omega) (by omega)
      obtain ⟨t,ht⟩:∃t,m.tris[j]? =some t:=⟨_,List.getElem?_eq_getElem hlt⟩
      have htm:t∈m.tris:=List.mem_of_getElem? ht
      have HCO:=Lib.hid (gf_OnT G.out j _ ht V HV9.out HVB.out _ _ _ _ _ HFr.out)
      have HCC:=Lib.hid (fun W (hW:Gr w5.heap.size w5 W)=>gf_Corners G.out j _ ht _ _ _ W (HF5.out.gr hW).1)
      obtain ⟨P,hP⟩:∃x,corP m t 0=x:=⟨_,rfl⟩
      obtain ⟨Q,hQ⟩:∃x,corP m t 1=x:=⟨_,rfl⟩
      obtain ⟨R,hR⟩:∃x,corP m t 2=x:=⟨_,rfl⟩
      have HDV:=Lib.hid (div_flow G.out t htm V)
      have hp4:hp P≤4∧hp Q≤4∧hp R≤4:=⟨hP ▸ G.out.cor t htm 0,hQ ▸ G.out.cor t htm 1,hR ▸ G.out.cor t htm 2⟩
      have HHP:=Lib.hid hp4
      rw [hP,hQ,hR]at HCC HDV
      have hD:=fld_d1 m V t
      have hTT:=fld_tot G.out t htm V HV9.out HVB.out
      have HDT:=Lib.hid (And.intro hD hTT)
      have hnj:ns[j]? =some (netR V (partsT (esM m.tris) t)):=by rw [←HNS.out,List.getElem?_map,ht];rfl
      obtain ⟨nr,hnr⟩:∃x,netR V (partsT (esM m.tris) t)=x:=⟨_,rfl⟩
      rw [hnr]at hnj HDV
      have hwn:hw nr≤100:=by rw [←hnr,←smR_3];have:=hw_sm (x:=partsT (esM m.tris) t) (fun k hk=>hw_out HVB.out _ (G.out.part HV9.out t htm k hk) (sgnE_one _ _)) 3 (by omega);omega
      obtain ⟨hjn,hnj2⟩:=List.getElem?_eq_some_iff.1 hnj
      obtain ⟨g',c',e1,_,_,_,_,hRn⟩:=HN5.out.block (by intro e9;rw [e9]at hjn;simp at hjn)
      have e2:gn=g':=congrArg (fun v:Value=>match v with| .slice (some a) _ _=>a.block|_=>0) e1
      subst e2
      have HRN:=Lib.hid (hRn.fQ hjn hnj2)
      clear e1 hRn hjn hnj hnj2 hP hQ hR hnr htm hp4 hD hTT
      go_wp2_with fail
      refine HCO.out.mono ?_
      rintro e w6 ⟨u,v,rfl,hu,hv,hg6⟩
      obtain ⟨au,cu,rfl⟩:=hu.at
      obtain ⟨av,cv',rfl⟩:=hv.at
      have hsz6:=hg6.size
      have HG6:=Lib.hid (HG.out.trans (hg6.mono (by omega)))
      have HB6:=Lib.hid (HB5.out.gr HG6.out hf5)
      clear b0 b1 b2 b3
      obtain ⟨b0,b1,b2,b3⟩:_∧_∧_∧_:=⟨HB6.out.c 0 _ rfl,HB6.out.c 1 _ rfl,HB6.out.c 2 _ rfl,HB6.out.c 3 _ rfl⟩
      have hf6:fb<w6.heap.size:=by omega
      go_wp2_with fail
      have HB7:=Lib.hid (show VB (w6.alloc (.cells #[.slice au (fldX m V t).length cu,.slice av (fldY m V t).length cv'] 47)) w6.heap.size [.slice au (fldX m V t).length cu,.slice av (fldY m V t).length cv']from by exact vbb)
      have HG7:=Lib.hid (show Gr w5.heap.size w5 (w6.alloc (.cells #[.slice au (fldX m V t).length cu,.slice av (fldY m V t).length cv'] 47))from by exact gcc HG6 gzz)
      have HU:=Lib.hid (show PL (w6.alloc (.cells #[.slice au (fldX m V t).length cu,.slice av (fldY m V t).length cv'] 47)) 0 _ _ from(hu.mono (Nat.zero_le _)).gr (by exact gzz))
      have HW:=Lib.hid (show PL (w6.alloc (.cells #[.slice au (fldX m V t).length cu,.slice av (fldY m V t).length cv'] 47)) 0 _ _ from(hv.mono (Nat.zero_le _)).gr (by exact gzz))
      have hz7:(w6.alloc (.cells #[.slice au (fldX m V t).length cu,.slice av (fldY m V t).length cv'] 47)).heap.size=w6.heap.size+1:=by simp
      generalize (w6.alloc (.cells #[.slice au (fldX m V t).length cu,.slice av (fldY m V t).length cv'] 47))=w7 at *
      generalize hgb0:w6.heap.size=gb at *
      clear hgb0 b0 b1 b2 b3 hu hv hg6
      have hgb5:w5.heap.size≤gb:=by omega
      have hgb7:gb<w7.heap.size:=by omega
      clear hz7
      (refine rtt (HCC.out _ HG7.out) fun w8 hsz8 hc8 hf8 HG8=>?_;(try simp at hsz8);have hy8_0:gb<w8.heap.size:=(by omega))
      go_upto_region 26 with fail
      have HP0:=Lib.hid (show VB (((w8.alloc (.cells #[.int .u64 (lowN (sz P.x.num)),.string (bigS (sz P.x.num)),.bool (ng P.x.num),.int .u64 (lowN (fm P.x)),.string (bigS (fm P.x)),.int .u64 (lowN (sz P.y.num)),.string (bigS (sz P.y.num)),.bool (ng P.y.num),.int .u64 (lowN (fm P.y)),.string (bigS (fm P.y))] 64)).alloc (.cells #[.int .u64 (lowN (sz Q.x.num)),.string (bigS (sz Q.x.num)),.bool (ng Q.x.num),.int .u64 (lowN (fm Q.x)),.string (bigS (fm Q.x)),.int .u64 (lowN (sz Q.y.num)),.string (bigS (sz Q.y.num)),.bool (ng Q.y.num),.int .u64 (lowN (fm Q.y)),.string (bigS (fm Q.y))] 64)).alloc (.cells #[.int .u64 (lowN (sz R.x.num)),.string (bigS (sz R.x.num)),.bool (ng R.x.num),.int .u64 (lowN (fm R.x)),.string (bigS (fm R.x)),.int .u64 (lowN (sz R.y.num)),.string (bigS (sz R.y.num)),.bool (ng R.y.num),.int .u64 (lowN (fm R.y)),.string (bigS (fm R.y))] 64)) (w8.heap.size) [.int .u64 (lowN (sz P.x.num)),.string (bigS (sz P.x.num)),.bool (ng P.x.num),.int .u64 (lowN (fm P.x)),.string (bigS (fm P.x)),.int .u64 (lowN (sz P.y.num)),.string (bigS (sz P.y.num)),.bool (ng P.y.num),.int .u64 (lowN (fm P.y)),.string (bigS (fm P.y))]from by exact vbb)
      have HP1:=Lib.hid (show VB (((w8.alloc (.cells #[.int .u64 (lowN (sz P.x.num)),.string (bigS (sz P.x.num)),.bool (ng P.x.num),.int .u64 (lowN (fm P.x)),.string (bigS (fm P.x)),.int .u64 (lowN (sz P.y.num)),.string (bigS (sz P.y.num)),.bool (ng P.y.num),.int .u64 (lowN (fm P.y)),.string (bigS (fm P.y))] 64)).alloc (.cells #[.int .u64 (lowN (sz Q.x.num)),.string (bigS (sz Q.x.num)),.bool (ng Q.x.num),.int .u64 (lowN (fm Q.x)),.string (bigS (fm Q.x)),.int .u64 (lowN (sz Q.y.num)),.string (bigS (sz Q.y.num)),.bool (ng Q.y.num),.int .u64 (lowN (fm Q.y)),.string (bigS (fm Q.y))] 64)).alloc (.cells #[.int .u64 (lowN (sz R.x.num)),.string (bigS (sz R.x.num)),.bool (ng R.x.num),.int .u64 (lowN (fm R.x)),.string (bigS (fm R.x)),.int .u64 (lowN (sz R.y.num)),.string (bigS (sz R.y.num)),.bool (ng R.y.num),.int .u64 (lowN (fm R.y)),.string (bigS (fm R.y))] 64)) (w8.heap.size+1) [.int .u64 (lowN (sz Q.x.num)),.string (bigS (sz Q.x.num)),.bool (ng Q.x.num),.int .u64 (lowN (fm Q.x)),.string (bigS (fm Q.x)),.int .u64 (lowN (sz Q.y.num)),.string (bigS (sz Q.y.num)),.bool (ng Q.y.num),.int .u64 (lowN (fm Q.y)),.string (bigS (fm Q.y))]from by exact vbb)
      have HP2:=Lib.hid (show VB (((w8.alloc (.cells #[.int .u64 (lowN (sz P.x.num)),.string (bigS (sz P.x.num)),.bool (ng P.x.num),.int .u64 (lowN (fm P.x)),.string (bigS (fm P.x)),.int .u64 (lowN (sz P.y.num)),.string (bigS (sz P.y.num)),.bool (ng P.y.num),.int .u64 (lowN (fm P.y)),.string (bigS (fm P.y))] 64)).alloc (.cells #[.int .u64 (lowN (sz Q.x.num)),.string (bigS (sz Q.x.num)),.bool (ng Q.x.num),.int .u64 (lowN (fm Q.x)),.string (bigS (fm Q.x)),.int .u64 (lowN (sz Q.y.num)),.string (bigS (sz Q.y.num)),.bool (ng Q.y.num),.int .u64 (lowN (fm Q.y)),.string (bigS (fm Q.y))] 64)).alloc (.cells #[.int .u64 (lowN (sz R.x.num)),.string (bigS (sz R.x.num)),.bool (ng R.x.num),.int .u64 (lowN (fm R.x)),.string (bigS (fm R.x)),.int .u64 (lowN (sz R.y.num)),.string (bigS (sz R.y.num)),.bool (ng R.y.num),.int .u64 (lowN (fm R.y)),.string (bigS (fm R.y))] 64)) (w8.heap.size+1+1) [.int .u64 (lowN (sz R.x.num)),.string (bigS (sz R.x.num)),.bool (ng R.x.num),.int .u64 (lowN (fm R.x)),.string (bigS (fm R.x)),.int .u64 (lowN (sz R.y.num)),.string (bigS (sz R.y.num)),.bool (ng R.y.num),.int .u64 (lowN (fm R.y)),.string (bigS (fm R.y))]from by exact vbb)
      have HG9:=Lib.hid (show Gr w8.heap.size w8 (((w8.alloc (.cells #[.int .u64 (lowN (sz P.x.num)),.string (bigS (sz P.x.num)),.bool (ng P.x.num),.int .u64 (lowN (fm P.x)),.string (bigS (fm P.x)),.int .u64 (lowN (sz P.y.num)),.string (bigS (sz P.y.num)),.bool (ng P.y.num),.int .u64 (lowN (fm P.y)),.string (bigS (fm P.y))] 64)).alloc (.cells #[.int .u64 (lowN (sz Q.x.num)),.string (bigS (sz Q.x.num)),.bool (ng Q.x.num),.int .u64 (lowN (fm Q.x)),.string (bigS (fm Q.x)),.int .u64 (lowN (sz Q.y.num)),.string (bigS (sz Q.y.num)),.bool (ng Q.y.num),.int .u64 (lowN (fm Q.y)),.string (bigS (fm Q.y))] 64)).alloc (.cells #[.int .u64 (lowN (sz R.x.num)),.string (bigS (sz R.x.num)),.bool (ng R.x.num),.int .u64 (lowN (fm R.x)),.string (bigS (fm R.x)),.int .u64 (lowN (sz R.y.num)),.string (bigS (sz R.y.num)),.bool (ng R.y.num),.int .u64 (lowN (fm R.y)),.string (bigS (fm R.y))] 64))from by exact gzz)
      have hz9:(((w8.alloc (.cells #[.int .u64 (lowN (sz P.x.num)),.string (bigS (sz P.x.num)),.bool (ng P.x.num),.int .u64 (lowN (fm P.x)),.string (bigS (fm P.x)),.int .u64 (lowN (sz P.y.num)),.string (bigS (sz P.y.num)),.bool (ng P.y.num),.int .u64 (lowN (fm P.y)),.string (bigS (fm P.y))] 64)).alloc (.cells #[.int .u64 (lowN (sz Q.x.num)),.string (bigS (sz Q.x.num)),.bool (ng Q.x.num),.int .u64 (lowN (fm Q.x)),.string (bigS (fm Q.x)),.int .u64 (lowN (sz Q.y.num)),.string (bigS (sz Q.y.num)),.bool (ng Q.y.num),.int .u64 (lowN (fm Q.y)),.string (bigS (fm Q.y))] 64)).alloc (.cells #[.int .u64 (lowN (sz R.x.num)),.string (bigS (sz R.x.num)),.bool (ng R.x.num),.int .u64 (lowN (fm R.x)),.string (bigS (fm R.x)),.int .u64 (lowN (sz R.y.num)),.string (bigS (sz R.y.num)),.bool (ng R.y.num),.int .u64 (lowN (fm R.y)),.string (bigS (fm R.y))] 64)).heap.size=w8.heap.size+1+1+1:=by simp
      generalize (((w8.alloc (.cells #[.int .u64 (lowN (sz P.x.num)),.string (bigS (sz P.x.num)),.bool (ng P.x.num),.int .u64 (lowN (fm P.x)),.string (bigS (fm P.x)),.int .u64 (lowN (sz P.y.num)),.string (bigS (sz P.y.num)),.bool (ng P.y.num),.int .u64 (lowN (fm P.y)),.string (bigS (fm P.y))] 64)).alloc (.cells #[.int .u64 (lowN (sz Q.x.num)),.string (bigS (sz Q.x.num)),.bool (ng Q.x.num),.int .u64 (lowN (fm Q.x)),.string (bigS (fm Q.x)),.int .u64 (lowN (sz Q.y.num)),.string (bigS (sz Q.y.num)),.bool (ng Q.y.num),.int .u64 (lowN (fm Q.y)),.string (bigS (fm Q.y))] 64)).alloc (.cells #[.int .u64 (lowN (sz R.x.num)),.string (bigS (sz R.x.num)),.bool (ng R.x.num),.int .u64 (lowN (fm R.x)),.string (bigS (fm R.x)),.int .u64 (lowN (sz R.y.num)),.string (bigS (sz R.y.num)),.bool (ng R.y.num),.int .u64 (lowN (fm R.y)),.string (bigS (fm R.y))] 64))=w9 at *
      have HGT:=Lib.hid (show Gr w7.heap.size w7 w9 from by exact gcc HG9 (gcc HG8 gzz))
      have HBB:=Lib.hid (HB7.out.gr HGT.out hgb7)
      have y0:=HBB.out.c 0 _ rfl
      have y1:=HBB.out.c 1 _ rfl
      have HG10:=Lib.hid (HG7.out.trans (HGT.out.mono HG7.out.size))
      generalize hpb:w8.heap.size=pb at *
      have hgpb:gb<pb:=by omega
      have hpb9:pb+1+1<w9.heap.size:=by omega
      clear hpb hz9 hc8 hf8 HG8 HG9
      have hgb9:gb<w9.heap.size:=by omega
      obtain ⟨⟨d1,d2⟩,d3,d4⟩:=HDT.out
      have tdx:=tot_dx (gat (fldX m V t)) d1.gat.ok
      have tdy:=tot_dy (gat (fldY m V t)) d2.gat.ok
      have tg1:=tot_gat (fldX m V t)
      have tg2:=tot_gat (fldY m V t)
      have tf1:=d1.few
      have tf2:=d2.few
      have tz1:=tot_gat ((gat (fldX m V t)).map T.dx)
      have tz2:=tot_gat ((gat (fldY m V t)).map T.dy)
      have hdX:tot (dxL (fldX m V t))≤798:=by unfold dxL;omega
      have hdY:tot (dyL (fldY m V t))≤798:=by unfold dyL;omega
      have hsm:=tot_addL (dxL (fldX m V t)) (dyL (fldY m V t))
      have hdS:tot (addL (dxL (fldX m V t)) (dyL (fldY m V t)))≤1596:=by omega
      have K1:=Lib.hid (fun v W h=>po_Dx (fldX m V t) v W h d1.ok (by omega))
      have K2:=Lib.hid (fun v W h=>po_Dy (fldY m V t) v W h d2.ok (by omega))
      have K3:=Lib.hid (fun v u W h1 h2=>po_Add (dxL (fldX m V t)) (dyL (fldY m V t)) v u W h1 h2 d1.dx.ok d2.dy.ok (by omega))
      have hwa:=hw_area P Q R HHP.out.1 HHP.out.2.1 HHP.out.2.2
      have K4:=Lib.hid (fun W=>tr_Area P Q R W ⟨by have:=HHP.out.1;omega,by have:=HHP.out.2.1;omega,by have:=HHP.out.2.2;omega⟩)
      obtain ⟨ar,har⟩:∃x,areaP P Q R=x:=⟨_,rfl⟩
      rw [har]at K4 HDV hwa
      have K5:=Lib.hid (fun v W h=>po_Scale ar (addL (dxL (fldX m V t)) (dyL (fldY m V t))) v W h (d1.dx.addL d2.dy).ok (Nat.le_trans (Nat.mul_le_mul hdS (show hw ar+2≤49 by omega)) (by decide)))
      have K6:=Lib.hid (fun W=>po_Const nr W (by omega))
      have htc:=tot_constT nr
      have hts:=tot_scl (d1.dx.addL d2.dy) ar
      have K7:=Lib.hid (fun v u W h1 h2=>po_Same (scaleL ar (addL (dxL (fldX m V t)) (dyL (fldY m V t)))) (constT nr) v u W h1 h2 ((d1.dx.addL d2.dy).scaleL ar).ok (D1.const nr).ok (by omega) (by omega))
      obtain ⟨DXP,hDXP⟩:∃x,dxL (fldX m V t)=x:=⟨_,rfl⟩
      obtain ⟨DYP,hDYP⟩:∃x,dyL (fldY m V t)=x:=⟨_,rfl⟩
      rw [hDXP,hDYP]at K3 K5 K7 HDV
      obtain ⟨SM,hSM⟩:∃x,addL DXP DYP=x:=⟨_,rfl⟩
      rw [hSM]at K5 K7 HDV
      obtain ⟨SC,hSC⟩:∃x,scaleL ar SM=x:=⟨_,rfl⟩
      rw [hSC]at K7 HDV
      have J1:=Lib.hid (hDXP ▸ K1.out:∀v W,PL W 0 v (fldX m V t)→Calls Tryz.prog 14 #[v] W (RetP W DXP))
      have J2:=Lib.hid (hDYP ▸ K2.out:∀v W,PL W 0 v (fldY m V t)→Calls Tryz.prog 15 #[v] W (RetP W DYP))
      have J3:=Lib.hid (hSM ▸ K3.out:∀v u W,PL W 0 v DXP→PL W 0 u DYP→Calls Tryz.prog 13 #[v,u] W (RetP W SM))
      have J5:=Lib.hid (hSC ▸ K5.out:∀v W,PL W 0 v SM→Calls Tryz.prog 17 #[v,fracV ar] W (RetP W SC))
      have J7:=Lib.hid (fun v u W h1 h2=>(show Calls Tryz.prog 16 #[v,u] W (Ret W (.bool true))from by have:=K7.out v u W h1 h2;rw [HDV.out,decide_eq_true rfl]at this;exact this))
      clear K1 K2 K3 K5 K7 hDXP hDYP hSM hSC d1 d2 d3 d4 tdx tdy tg1 tg2 tf1 tf2 tz1 tz2 hdX hdY hsm hdS hwa htc hts har hwn HDV
      refine wp_region_held_drew (S:=(fun w'=>w'.cell? ⟨gb,0,none⟩=some (.slice au (fldX m V t).length cu)∧w'.cell? ⟨gb,1,none⟩=some (.slice av (fldY m V t).length cv'))) (by kernel_rfl) ?_ (fun hHeld=>?_)
      ·simp [go_sem, *]
      refine tk 0 (some 136) (.pointer (some ⟨gb,0,none⟩)) ?_
      try simp only [pS]
      refine tk 1 (some 137) (.slice au (fldX m V t).length cu) ?_
      try simp only [pS]
      refine tk 3 (some 139) (.pointer (some ⟨gb,1,none⟩)) ?_
      try simp only [pS]
      refine tk 4 (some 140) (.slice av (fldY m V t).length cv') ?_
      try simp only [pS]
      refine rd 2 (fun K hK=>?_)
      go_simp
      (refine rtp (J1.out _ _ (HU.out.gr (by exact gcc HGT gzz))) fun w21 v21 HS21 hsz21 hc21 hf21 HG21=>?_;(try simp at hsz21);have hy21_0:gb<w21.heap.size:=(by omega);have hy21_1:pb+1+1<w21.heap.size:=(by omega))
      (try dsimp only)
      refine hK.out _ _ ?_ (fun hQ1=>?_)
      ·(first|exact trivial|((try dsimp only);simp [go_sem, *]))
      clear hK K hHeld
      try simp only [pS]
      refine rd 5 (fun K hK=>?_)
      go_simp
      (refine rtp (J2.out _ _ (HW.out.gr (by exact gcc HG21 (gcc HGT gzz)))) fun w22 v22 HS22 hsz22 hc22 hf22 HG22=>?_;(try simp at hsz22);have hy22_0:gb<w22.heap.size:=(by omega);have hy22_1:pb+1+1<w22.heap.size:=(by omega))
      (try dsimp only)
      refine hK.out _ _ ?_ (fun hQ2=>?_)
      ·(first|exact trivial|((try dsimp only);simp [go_sem, *]))
      clear hK K hQ1
      try simp only [pS]
      refine rd 6 (fun K hK=>?_)
      go_simp
      (refine rtp (J3.out _ _ _ ((HS21.out.mono (Nat.zero_le _)).gr HG22.out) (HS22.out.mono (Nat.zero_le _))) fun w23 v23 HS23 hsz23 hc23 hf23 HG23=>?_;(try simp at hsz23);have hy23_0:gb<w23.heap.size:=(by omega);have hy23_1:pb+1+1<w23.heap.size:=(by omega))
      (try dsimp only)
      refine hK.out _ _ ?_ (fun hQ3=>?_)
      ·(first|exact trivial|((try dsimp only);simp [go_sem, *]))
      clear hK K hQ2
      try simp only [pS]
      obtain ⟨a23,c23,rfl⟩:=HS23.out.at
      refine tk 7 (some 18) (.slice a23 SM.length c23) ?_
      try simp only [pS]
      refine wpAnyH_done (by kernel_rfl) ?_ _
      have HGV:=Lib.hid (show Gr w9.heap.size w9 w23 from by exact gcc HG23 (gcc HG22 (gcc HG21 gzz)))
      have HG23b:=Lib.hid (HG10.out.trans (HGV.out.mono HG10.out.size))
      have HSM:=Lib.hid (HS23.out.mono (Nat.zero_le _))
      have HP0b:=Lib.hid (HP0.out.gr HGV.out (by omega))
      have HP1b:=Lib.hid (HP1.out.gr HGV.out (by omega))
      have HP2b:=Lib.hid (HP2.out.gr HGV.out (by omega))
      clear y0 y1 hQ3 HG21 hc21 hf21 HS21 HG22 hc22 hf22 HS22 HG23 hc23 hf23 HS23 HP0 HP1 HP2
      have hpb23:pb+1+1<w23.heap.size:=by omega
      have hpb23a:pb<w23.heap.size:=by omega
      have hpb23b:pb+1<w23.heap.size:=by omega
      have hgn23:gn<w23.heap.size:=by have:=HG23b.out.size;omega
      go_upto_region 27 with fail
      obtain ⟨p0,p1,p2,p3,p4,p5,p6,p7,p8,p9⟩:=HP0b.out.ten
      obtain ⟨q0,q1,q2,q3,q4,q5,q6,q7,q8,q9⟩:=HP1b.out.ten
      obtain ⟨s0,s1,s2,s3,s4,s5,s6,s7,s8,s9⟩:=HP2b.out.ten
      obtain ⟨r0,r1,r2,r3,r4⟩:=HRN.out
      rw [←HG23b.out.cell (p:=⟨gn,j*5,none⟩) hgn]at r0
      rw [←HG23b.out.cell (p:=⟨gn,j*5+1,none⟩) hgn]at r1
      rw [←HG23b.out.cell (p:=⟨gn,j*5+2,none⟩) hgn]at r2
      rw [←HG23b.out.cell (p:=⟨gn,j*5+3,none⟩) hgn]at r3
      rw [←HG23b.out.cell (p:=⟨gn,j*5+4,none⟩) hgn]at r4
      refine wp_region_held_drew (S:=(fun w'=>w'.cell? ⟨pb,0,none⟩=some (.int .u64 (lowN (sz P.x.num)))∧w'.cell? ⟨pb,1,none⟩=some (.string (bigS (sz P.x.num)))∧w'.cell? ⟨pb,2,none⟩=some (.bool (ng P.x.num))∧w'.cell? ⟨pb,3,none⟩=some (.int .u64 (lowN (fm P.x)))∧w'.cell? ⟨pb,4,none⟩=some (.string (bigS (fm P.x)))∧w'.cell? ⟨pb,5,none⟩=some (.int .u64 (lowN (sz P.y.num)))∧w'.cell? ⟨pb,6,none⟩=some (.string (bigS (sz P.y.num)))∧w'.cell? ⟨pb,7,none⟩=some (.bool (ng P.y.num))∧w'.cell? ⟨pb,8,none⟩=some (.int .u64 (lowN (fm P.y)))∧w'.cell? ⟨pb,9,none⟩=some (.string (bigS (fm P.y)))∧w'.cell? ⟨pb+1,0,none⟩=some (.int .u64 (lowN (sz Q.x.num)))∧w'.cell? ⟨pb+1,1,none⟩=some (.string (bigS (sz Q.x.num)))∧w'.cell? ⟨pb+1,2,none⟩=some (.bool (ng Q.x.num))∧w'.cell? ⟨pb+1,3,none⟩=some (.int .u64 (lowN (fm Q.x)))∧w'.cell? ⟨pb+1,4,none⟩=some (.string (bigS (fm Q.x)))∧w'.cell? ⟨pb+1,5,none⟩=some (.int .u64 (lowN (sz Q.y.num)))∧w'.cell? ⟨pb+1,6,none⟩=some (.string (bigS (sz Q.y.num)))∧w'.cell? ⟨pb+1,7,none⟩=some (.bool (ng Q.y.num))∧w'.cell? ⟨pb+1,8,none⟩=some (.int .u64 (lowN (fm Q.y)))∧w'.cell? ⟨pb+1,9,none⟩=some (.string (bigS (fm Q.y)))∧w'.cell? ⟨pb+1+1,0,none⟩=some (.int .u64 (lowN (sz R.x.num)))∧w'.cell? ⟨pb+1+1,1,none⟩=some (.string (bigS (sz R.x.num)))∧w'.cell? ⟨pb+1+1,2,none⟩=some (.bool (ng R.x.num))∧w'.cell? ⟨pb+1+1,3,none⟩=some (.int .u64 (lowN (fm R.x)))∧w'.cell? ⟨pb+1+1,4,none⟩=some (.string (bigS (fm R.x)))∧w'.cell? ⟨pb+1+1,5,none⟩=some (.int .u64 (lowN (sz R.y.num)))∧w'.cell? ⟨pb+1+1,6,none⟩=some (.string (bigS (sz R.y.num)))∧w'.cell? ⟨pb+1+1,7,none⟩=some (.bool (ng R.y.num))∧w'.cell? ⟨pb+1+1,8,none⟩=some (.int .u64 (lowN (fm R.y)))∧w'.cell? ⟨pb+1+1,9,none⟩=some (.string (bigS (fm R.y)))∧w'.cell? ⟨gn,j*5,none⟩=some (.int .u64 (lowN (sz nr.num)))∧w'.cell? ⟨gn,j*5+1,none⟩=some (.string (bigS (sz nr.num)))∧w'.cell? ⟨gn,j*5+2,none⟩=some (.bool (ng nr.num))∧w'.cell? ⟨gn,j*5+3,none⟩=some (.int .u64 (lowN (fm nr)))∧w'.cell? ⟨gn,j*5+4,none⟩=some (.string (bigS (fm nr))))) (by kernel_rfl) ?_ (fun hHeld=>?_)
      ·simp [go_sem, *]
      refine tk 0 (some 143) (.int .i64 0) ?_
      try simp only [pS]
      refine tk 1 (some 144) (.bool false) ?_
      try simp only [pS]
      refine tk 2 (some 145) (.bool false) ?_
      try simp only [pS]
      refine tk 3 (some 146) (.slice a23 SM.length c23) ?_
      try simp only [pS]
      refine tk 4 (some 147) (.agg #[.int .u64 (lowN (sz P.x.num)),.string (bigS (sz P.x.num)),.bool (ng P.x.num),.int .u64 (lowN (fm P.x)),.string (bigS (fm P.x)),.int .u64 (lowN (sz P.y.num)),.string (bigS (sz P.y.num)),.bool (ng P.y.num),.int .u64 (lowN (fm P.y)),.string (bigS (fm P.y))]) ?_
      try simp only [pS]
      refine tk 5 (some 148) (.agg #[.int .u64 (lowN (sz Q.x.num)),.string (bigS (sz Q.x.num)),.bool (ng Q.x.num),.int .u64 (lowN (fm Q.x)),.string (bigS (fm Q.x)),.int .u64 (lowN (sz Q.y.num)),.string (bigS (sz Q.y.num)),.bool (ng Q.y.num),.int .u64 (lowN (fm Q.y)),.string (bigS (fm Q.y))]) ?_
      try simp only [pS]
      refine tk 6 (some 149) (.agg #[.int .u64 (lowN (sz R.x.num)),.string (bigS (sz R.x.num)),.bool (ng R.x.num),.int .u64 (lowN (fm R.x)),.string (bigS (fm R.x)),.int .u64 (lowN (sz R.y.num)),.string (bigS (sz R.y.num)),.bool (ng R.y.num),.int .u64 (lowN (fm R.y)),.string (bigS (fm R.y))]) ?_
      try simp only [pS]
      refine tk 9 (some 152) (.slice (some ⟨gn,0,none⟩) m.tris.length cn) ?_
      try simp only [pS]
      refine tk 10 (some 153) (.int .i64 (j:Int)) ?_
      try simp only [pS]
      refine tk 11 (some 154) (.pointer (some ⟨gn,j*5,none⟩)) ?_
      try simp only [pS]
      refine tk 12 (some 155) (.agg #[.int .u64 (lowN (sz nr.num)),.string (bigS (sz nr.num)),.bool (ng nr.num),.int .u64 (lowN (fm nr)),.string (bigS (fm nr))]) ?_
      try simp only [pS]
      refine rd 7 (fun K hK=>?_)
      go_simp
      (refine rtt (K4.out _) fun w31 hsz31 hc31 hf31 HG31=>?_;(try simp at hsz31);have hy31_0:gn<w31.heap.size:=(by omega);have hy31_1:pb<w31.heap.size:=(by omega);have hy31_2:pb+1<w31.heap.size:=(by omega);have hy31_3:pb+1+1<w31.heap.size:=(by omega))
      (try dsimp only)
      refine hK.out _ _ ?_ (fun hQ1=>?_)
      ·(first|exact trivial|((try dsimp only);simp [go_sem, *]))
      clear hK K hHeld
      try simp only [pS]
      refine rd 8 (fun K hK=>?_)
      go_simp
      (refine rtp (J5.out _ _ (HSM.out.gr (by exact gcc HG31 gzz))) fun w32 v32 HS32 hsz32 hc32 hf32 HG32=>?_;(try simp at hsz32);have hy32_0:gn<w32.heap.size:=(by omega);have hy32_1:pb<w32.heap.size:=(by omega);have hy32_2:pb+1<w32.heap.size:=(by omega);have hy32_3:pb+1+1<w32.heap.size:=(by omega))
      obtain ⟨a32,c32,rfl⟩:=HS32.out.at
      (try dsimp only)
      refine hK.out _ _ ?_ (fun hQ2=>?_)
      ·(first|exact trivial|((try dsimp only);simp [go_sem, *]))
      clear hK K hQ1
      try simp only [pS]
      refine rd 13 (fun K hK=>?_)
      go_simp
      (refine rtp (K6.out _) fun w33 v33 HS33 hsz33 hc33 hf33 HG33=>?_;(try simp at hsz33);have hy33_0:gn<w33.heap.size:=(by omega);have hy33_1:pb<w33.heap.size:=(by omega);have hy33_2:pb+1<w33.heap.size:=(by omega);have hy33_3:pb+1+1<w33.heap.size:=(by omega))
      obtain ⟨a33,c33,rfl⟩:=HS33.out.at
      (try dsimp only)
      refine hK.out _ _ ?_ (fun hQ3=>?_)
      ·(first|exact trivial|((try dsimp only);simp [go_sem, *]))
      clear hK K hQ2
      try simp only [pS]
      refine rd 14 (fun K hK=>?_)
      go_simp
      (refine rtt (J7.out _ _ _ ((HS32.out.mono (Nat.zero_le _)).gr HG33.out) (HS33.out.mono (Nat.zero_le _))) fun w34 hsz34 hc34 hf34 HG34=>?_;(try simp at hsz34);have hy34_0:gn<w34.heap.size:=(by omega);have hy34_1:pb<w34.heap.size:=(by omega);have hy34_2:pb+1<w34.heap.size:=(by omega);have hy34_3:pb+1+1<w34.heap.size:=(by omega))
      (try dsimp only)
      refine hK.out _ _ ?_ (fun hQ4=>?_)
      ·(first|exact trivial|((try dsimp only);simp [go_sem, *]))
      clear hK K hQ3
      try simp only [pS]
      refine tk 15 (some 158) (.bool false) ?_
      try simp only [pS]
      refine tk 16 (some 159) (.bool false) ?_
      try simp only [pS]
      refine wpAnyH_done (by kernel_rfl) ?_ _
      clear p0 p1 p2 p3 p4 p5 p6 p7 p8 p9 q0 q1 q2 q3 q4 q5 q6 q7 q8 q9 s0 s1 s2 s3 s4 s5 s6 s7 s8 s9 r0 r1 r2 r3 r4
      go_wp2
      go_roundw
      case rel=>exact⟨j+1,by omega,by go_num,Lib.hid (by exact gcc HG34 (gcc HG33 (gcc HG32 (gcc HG31 (gcc HG23b gzz)))))⟩
      case measure=>simp [intOf];omega
     ·have hjn:j=m.tris.length:=by omega
      subst hjn
      have HE1:=Lib.hid (fun k (hk:k<0∨(m.tris.length:Int)≤k) W (hW:Gr w5.heap.size w5 W)=>gf_OnErr G.out k hk V HV9.out _ _ _ _ W (HF5.out.gr hW))
      go_wp2_with fail
      (refine rtt (HE1.out (-1) (.inl (by omega)) _ HG.out) fun w6 hsz6 hc6 hf6 HG6=>?_;(try simp at hsz6))
      have HG6b:=Lib.hid (show Gr w5.heap.size w5 w6 from by exact gcc HG6 (gcc HG gzz))
      have HB6:=Lib.hid (HB5.out.gr HG6b.out hf5)
      clear b0 b1 b2 b3 hc6 hf6 HG6
      obtain ⟨b0,b1,b2,b3⟩:_∧_∧_∧_:=⟨HB6.out.c 0 _ rfl,HB6.out.c 1 _ rfl,HB6.out.c 2 _ rfl,HB6.out.c 3 _ rfl⟩
      have hf6:fb<w6.heap.size:=by have:=HG6b.out.size;omega
      go_wp2_with fail
      (refine rtt (HE1.out _ (.inr (by omega)) _ (by exact gcc HG6b gzz)) fun w7 hsz7 hc7 hf7 HG7=>?_;(try simp at hsz7))
      have HG7b:=Lib.hid (show Gr w5.heap.size w5 w7 from by exact gcc HG7 (gcc HG6b gzz))
      clear b0 b1 b2 b3
      go_wp2_with fail
      (refine rtt (HLv.out _) fun w8 hsz8 hc8 hf8 HG8=>?_;(try simp at hsz8))
      go_wp2
      go_ret
      exact⟨rfl,by have s1:=HG7b.out.size;have s2:=HG5.out.size;have s3:=HG4.out.size;exact gcc HG8 (gcc HG7b (gcc HG5 (gcc HG4 gzz)))⟩
end Go.Proofs.YtfgmdhjmgdccdaaGreat
