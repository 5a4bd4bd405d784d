/-
  Part 49 of the proof: LawT.
-/
import Derived.Test.YtmbmeggbojfecaaGreatJ48
set_option linter.unusedSimpArgs false
set_option linter.unusedVariables false
namespace Go.Proofs.YtmbmeggbojfecaaGreat
open Go.RowKit Gus Go.Maps
set_option maxRecDepth 20000 in
set_option maxHeartbeats 8000000 in
theorem law_turned (m:Msh) (o:Nat) (two:Bool) (ho:o=ordN two) (nx ny den fi nb cc:Nat) (m0 m1 m2 m3:Int) (cv:Option Addr) (fv:Value) (fb:List Nat) (w:World) (hF:BS w fv fb) (hfb:∀b∈fb,b<256) (hT:m.tris.length≤1000) (hP:m.pts.length≤1000) (hSd:m.sides.length≤1000000) (hn0:0<m.tris.length) (hg:∀t∈m.tris,goodT m.pts.length t)
  (hM:∀W:World,Gr w.heap.size w W→Calls Tryz.prog 6 #[.agg #[.int .u8 (nx:Int),.int .u8 (ny:Int),.slice cv nb cc,.int .i8 m0,.int .i8 m1,.int .i8 m2,.int .i8 m3,.int .u8 (den:Int),.int .u8 (fi:Int)]] W (fun e w'=> ∃a b c,e= .returned (.agg #[a,b,c])∧MS w' W.heap.size a b c m∧Gr W.heap.size W w'))
  (hOf:∀(W:World) a b c,MS W 0 a b c m→Calls Tryz.prog 7 #[.agg #[a,b,c],.int .i64 (o:Int)] W (fun e w'=> ∃x y z,e= .returned (.tuple #[tabV o (numM o m) x y z,.int .i64 0])∧TabM w' W.heap.size o m x y z∧Gr W.heap.size W w'))
  (hOt:∀(W:World) a b c,MS W 0 a b c (turnM fb m)→Calls Tryz.prog 7 #[.agg #[a,b,c],.int .i64 (o:Int)] W (fun e w'=> ∃x y z,e= .returned (.tuple #[tabV o (numM o (turnM fb m)) x y z,.int .i64 0])∧TabM w' W.heap.size o (turnM fb m) x y z∧Gr W.heap.size W w')):
  Calls Tryz.prog 4 #[.agg #[.int .u8 (nx:Int),.int .u8 (ny:Int),.slice cv nb cc,.int .i8 m0,.int .i8 m1,.int .i8 m2,.int .i8 m3,.int .u8 (den:Int),.int .u8 (fi:Int)],.bool two,fv] w (fun e w'=>e= .returned (.bool true)∧Below w.heap.size w w'):=by
 obtain ⟨fa,fc,rfl⟩:=hF.at
 have HFF:=Lib.hid hF
 have HFB:=Lib.hid hfb
 have hfl:=hF.len
 unfold maxLen at hfl
 have HM:=Lib.hid hM
 have HOF:=Lib.hid hOf
 have HOT2:=Lib.hid hOt
 have HGD:=Lib.hid hg
 have HO:=Lib.hid (fun W=>ho ▸ law_Order two W)
 have ho2:o=1∨o=2:=by rw [ho];unfold ordN;cases two<;>simp
 have HO2:=Lib.hid ho2
 clear hM hOf hOt hg ho ho2 hF hfb
 go_enter Tryz.func4,Tryz.ntmps4
 go_wp2_with fail
 refine(HM.out _ (by(with_reducible (repeat' (first|exact Gr.refl _ _|refine Gr.drew ?_|refine Gr.setCell ?_ ?_ _|refine Gr.alloc ?_ ?_ _|omega|(simp;done)|(simp;omega)))))).mono ?_
 rintro e w1 ⟨va,vb,vc,rfl,hM,hg1⟩
 have hsz1:=hg1.size
 (try simp at hsz1)
 have HG1:=Lib.hid ((show Gr w.heap.size w (w.alloc (.cells #[.int .u8 (nx:Int),.int .u8 (ny:Int),.slice cv nb cc,.int .i8 m0,.int .i8 m1,.int .i8 m2,.int .i8 m3,.int .u8 (den:Int),.int .u8 (fi:Int)] 26))from by(with_reducible (repeat' (first|exact Gr.refl _ _|refine Gr.drew ?_|refine Gr.setCell ?_ ?_ _|refine Gr.alloc ?_ ?_ _|omega|(simp;done)|(simp;omega))))).trans (hg1.mono (by first|omega|(simp;done)|(simp;omega))))
 obtain ⟨hMp,hMt,hMs⟩:=hM
 obtain ⟨ap,cp,rfl⟩:=hMp.at
 obtain ⟨at_,ct,rfl⟩:=hMt.at
 obtain ⟨as_,cs,rfl⟩:=hMs.at
 have HMS:=Lib.hid (show MS (w1.alloc (.cells #[.slice ap m.pts.length cp,.slice at_ m.tris.length ct,.slice as_ m.sides.length cs] 32)) 0 (.slice ap m.pts.length cp) (.slice at_ m.tris.length ct) (.slice as_ m.sides.length cs) m from(show MS w1 0 _ _ _ m from⟨hMp.mono (Nat.zero_le _),hMt.mono (Nat.zero_le _),hMs.mono (Nat.zero_le _)⟩).gr (by(with_reducible (repeat' (first|exact Gr.refl _ _|refine Gr.drew ?_|refine Gr.setCell ?_ ?_ _|refine Gr.alloc ?_ ?_ _|omega|(simp;done)|(simp;omega))))))
 have HV:=Lib.hid (show VB (w1.alloc (.cells #[.slice ap m.pts.length cp,.slice at_ m.tris.length ct,.slice as_ m.sides.length cs] 32)) w1.heap.size [.slice ap m.pts.length cp,.slice at_ m.tris.length ct,.slice as_ m.sides.length cs]from by(with_reducible (repeat' (first|(refine VB.new' ?_;exact(by first|omega|(simp;done)|(simp;omega)))|apply VB.put2|apply VB.put3|apply VB.put5|refine VB.drew ?_|refine VB.far ?_ ?_ _|refine VB.alloc ?_ _|omega|(simp;done)|(simp;omega)))))
 have HG:=Lib.hid (show Gr w.heap.size w (w1.alloc (.cells #[.slice ap m.pts.length cp,.slice at_ m.tris.length ct,.slice as_ m.sides.length cs] 32))from by(with_reducible (repeat' (first|exact Gr.refl _ _|refine Gr.drew ?_|refine Gr.setCell ?_ ?_ _|refine Gr.alloc ?_ ?_ _|refine Gr.trans ?_ (Gr.mono HG1.out ?_)|omega|(simp;done)|(simp;omega)))))
 have hs2:(w1.alloc (.cells #[.slice ap m.pts.length cp,.slice at_ m.tris.length ct,.slice as_ m.sides.length cs] 32)).heap.size=w1.heap.size+1:=by simp
 clear hMp hMt hMs HG1 hg1
 go_upto_region 2 with fail
 generalize (w1.alloc (.cells #[.slice ap m.pts.length cp,.slice at_ m.tris.length ct,.slice as_ m.sides.length cs] 32))=w2 at *
 have hmb:w1.heap.size<w2.heap.size:=by omega
 have hwm:w.heap.size<w1.heap.size:=by omega
 generalize w1.heap.size=mb at *
 clear hs2 hsz1
 have c0:=HV.out.c 0 _ rfl
 have c1:=HV.out.c 1 _ rfl
 have c2:=HV.out.c 2 _ rfl
 go_wp2_with fail
 refine(ms_Copy m _ _ _ _ HMS.out (by omega) (by omega) hSd).mono ?_
 rintro e w3 ⟨va,vb,vc,rfl,hC,hg3⟩
 have hsz3:=hg3.size
 obtain ⟨hCp,hCt,hCs⟩:=hC
 obtain ⟨bp,dp,rfl⟩:=hCp.at
 obtain ⟨bs_,ds,rfl⟩:=hCs.at
 obtain ⟨gn,dt,e4,hgn,hdl,hdt,hshn,hRn⟩:=hCt.block (by intro e;rw [e]at hn0;simp at hn0)
 obtain ⟨bt,dt2,e5⟩:=hCt.at
 rw [e4]at e5
 injection e5 with e6 _ e7
 subst e7
 subst e4
 have hbt:bt=some ⟨gn,0,none⟩:=e6.symm
 subst hbt
 have HN:=Lib.hid (show VB (w3.alloc (.cells #[.slice bp m.pts.length dp,.slice (some ⟨gn,0,none⟩) m.tris.length dt,.slice bs_ m.sides.length ds] 32)) w3.heap.size [.slice bp m.pts.length dp,.slice (some ⟨gn,0,none⟩) m.tris.length dt,.slice bs_ m.sides.length ds]from by(with_reducible (repeat' (first|(refine VB.new' ?_;exact(by first|omega|(simp;done)|(simp;omega)))|apply VB.put2|apply VB.put3|apply VB.put5|refine VB.drew ?_|refine VB.far ?_ ?_ _|refine VB.alloc ?_ _|omega|(simp;done)|(simp;omega)))))
 have HCP:=Lib.hid (show SR pC 10 57 (w3.alloc (.cells #[.slice bp m.pts.length dp,.slice (some ⟨gn,0,none⟩) m.tris.length dt,.slice bs_ m.sides.length ds] 32)) w2.heap.size (.slice bp m.pts.length dp) m.pts from hCp.gr (by(with_reducible (repeat' (first|exact Gr.refl _ _|refine Gr.drew ?_|refine Gr.setCell ?_ ?_ _|refine Gr.alloc ?_ ?_ _|omega|(simp;done)|(simp;omega))))))
 have HCS:=Lib.hid (show SR triC 3 63 (w3.alloc (.cells #[.slice bp m.pts.length dp,.slice (some ⟨gn,0,none⟩) m.tris.length dt,.slice bs_ m.sides.length ds] 32)) w2.heap.size (.slice bs_ m.sides.length ds) m.sides from hCs.gr (by(with_reducible (repeat' (first|exact Gr.refl _ _|refine Gr.drew ?_|refine Gr.setCell ?_ ?_ _|refine Gr.alloc ?_ ?_ _|omega|(simp;done)|(simp;omega))))))
 have hgl:=hshn.lt
 have hgnb:=hshn.lt
 have HRN:=Lib.hid (show RC triC 3 (w3.alloc (.cells #[.slice bp m.pts.length dp,.slice (some ⟨gn,0,none⟩) m.tris.length dt,.slice bs_ m.sides.length ds] 32)) gn m.tris from hRn.gr (C:=w3.heap.size) (by(with_reducible (repeat' (first|exact Gr.refl _ _|refine Gr.drew ?_|refine Gr.setCell ?_ ?_ _|refine Gr.alloc ?_ ?_ _|omega|(simp;done)|(simp;omega))))) hgl)
 have HSN:=Lib.hid (show Shx (w3.alloc (.cells #[.slice bp m.pts.length dp,.slice (some ⟨gn,0,none⟩) m.tris.length dt,.slice bs_ m.sides.length ds] 32)) gn 42 from⟨_,hshn.choose_spec.of_gr (by(with_reducible (repeat' (first|exact Gr.refl _ _|refine Gr.drew ?_|refine Gr.setCell ?_ ?_ _|refine Gr.alloc ?_ ?_ _|omega|(simp;done)|(simp;omega)))))⟩)
 have HV4:=Lib.hid (show VB (w3.alloc (.cells #[.slice bp m.pts.length dp,.slice (some ⟨gn,0,none⟩) m.tris.length dt,.slice bs_ m.sides.length ds] 32)) mb _ from(HV.out.gr hg3 hmb).alloc _)
 have HMS4:=Lib.hid (show MS (w3.alloc (.cells #[.slice bp m.pts.length dp,.slice (some ⟨gn,0,none⟩) m.tris.length dt,.slice bs_ m.sides.length ds] 32)) 0 _ _ _ m from(HMS.out.gr hg3).gr (by(with_reducible (repeat' (first|exact Gr.refl _ _|refine Gr.drew ?_|refine Gr.setCell ?_ ?_ _|refine Gr.alloc ?_ ?_ _|omega|(simp;done)|(simp;omega))))))
 have HG4:=Lib.hid (show Gr w.heap.size w (w3.alloc (.cells #[.slice bp m.pts.length dp,.slice (some ⟨gn,0,none⟩) m.tris.length dt,.slice bs_ m.sides.length ds] 32))from(HG.out.trans (hg3.mono (by omega))).trans (by(with_reducible (repeat' (first|exact Gr.refl _ _|refine Gr.drew ?_|refine Gr.setCell ?_ ?_ _|refine Gr.alloc ?_ ?_ _|omega|(simp;done)|(simp;omega))))))
 have hs4:(w3.alloc (.cells #[.slice bp m.pts.length dp,.slice (some ⟨gn,0,none⟩) m.tris.length dt,.slice bs_ m.sides.length ds] 32)).heap.size=w3.heap.size+1:=by simp
 have HTL:=Lib.hid (show ∀g,(Value.slice at_ m.tris.length ct).ownBlock=some g→g<w2.heap.size from fun g e=>(HMS.out.2.1.own_lt e).2)
 have HPL:=Lib.hid (show ∀g,(Value.slice ap m.pts.length cp).ownBlock=some g→g<w2.heap.size from fun g e=>(HMS.out.1.own_lt e).2)
 have HSL:=Lib.hid (show ∀g,(Value.slice as_ m.sides.length cs).ownBlock=some g→g<w2.heap.size from fun g e=>(HMS.out.2.2.own_lt e).2)
 have HBP:=Lib.hid (show ∀g,(Value.slice bp m.pts.length dp).ownBlock=some g→g≠gn from fun g e e2=>by
  obtain ⟨cur,hcc,_⟩:=hshn.choose_spec
  rcases hCp with⟨h,_⟩|⟨g2,c2,h,_,_,_,⟨N2,cur2,hc2,_⟩,_⟩
  ·rw [h]at e;simp [Value.ownBlock]at e
  ·rw [h]at e
   have e3:g2=g:=by simpa [Value.ownBlock] using e
   rw [e3,e2,hcc]at hc2
   have h7:(42:TypeId)=57:=by injection Option.some.inj hc2
   exact absurd h7 (by decide))
 have HBS:=Lib.hid (show ∀g,(Value.slice bs_ m.sides.length ds).ownBlock=some g→g≠gn from fun g e e2=>by
  obtain ⟨cur,hcc,_⟩:=hshn.choose_spec
  rcases hCs with⟨h,_⟩|⟨g2,c2,h,_,_,_,⟨N2,cur2,hc2,_⟩,_⟩
  ·rw [h]at e;simp [Value.ownBlock]at e
  ·rw [h]at e
   have e3:g2=g:=by simpa [Value.ownBlock] using e
   rw [e3,e2,hcc]at hc2
   have h7:(42:TypeId)=63:=by injection Option.some.inj hc2
   exact absurd h7 (by decide))
 clear hCp hCs hCt hRn hshn hg3 HV HMS HG c0 c1 c2 e6
 go_upto_region 3 with fail
 generalize (w3.alloc (.cells #[.slice bp m.pts.length dp,.slice (some ⟨gn,0,none⟩) m.tris.length dt,.slice bs_ m.sides.length ds] 32))=w4 at *
 have hnb:w3.heap.size<w4.heap.size:=by omega
 have hmn:mb<w3.heap.size:=by omega
 generalize w3.heap.size=nb_ at *
 clear hs4
 have hngn:nb_≠gn:=by omega
 have hgnw:w2.heap.size≤gn:=hgn
 have hgm:mb<gn:=by omega
 have c0:=HV4.out.c 0 _ rfl
 have c1:=HV4.out.c 1 _ rfl
 have c2:=HV4.out.c 2 _ rfl
 have d0:=HN.out.c 0 _ rfl
 have d1:=HN.out.c 1 _ rfl
 have d2:=HN.out.c 2 _ rfl
 have hgn4:gn<w4.heap.size:=by omega
 have hfw:w.heap.size<w4.heap.size:=by omega
 have HFF4:=Lib.hid (HFF.out.gr (show Gr w.heap.size w w4 from HG4.out))
 have HFL:=Lib.hid (show ∀g,(Value.slice fa fb.length fc).ownBlock=some g→fb≠ []→g<w.heap.size from fun g e hne=>by
  obtain ⟨g2,o2,c2,e3,hl2,_⟩:=HFF.out.block hne
  injection e3 with e4 _ _
  rw [e4]at e
  have:g2=g:=by simpa [Value.ownBlock] using e
  omega)
 go_wp2
 go_loopw [9] (fun s wr=> ∃i:Nat,i≤m.tris.length∧s= .int .i64 i∧Hid (RC triC 3 wr gn (part3 fb m.tris i))∧Hid (Shx wr gn 42)∧Hid (Kp w4 wr (some gn))) (fun s _=>m.tris.length - (intOf s).toNat)
 case atStart=>exact⟨0,Nat.zero_le _,rfl,Lib.hid (by rw [part3_zero];exact HRN.out),HSN,Lib.hid ((Gr.refl _ _).kp _)⟩
 case round=>
  clear HRN HSN
  obtain ⟨i,hi,rfl,HRN,HSN,HK⟩:=hrel
  have hszr:=HK.out.g.size
  have HNr:=Lib.hid (HN.out.kp HK.out (fun e=>hngn (Option.some.inj e)))
  have HVr:=Lib.hid (HV4.out.kp HK.out (fun e=>by have:=Option.some.inj e;omega))
  have n1:=HNr.out.c 1 _ rfl
  have hnl:=HNr.out.lt
  have hvl:=HVr.out.lt
  clear c0 c1 c2 d0 d1 d2
  by_cases hlt:i<m.tris.length
  ·have q0:(i:Int)<(m.tris.length:Int):=by omega
   have hi0:(0:Int)≤(i:Int):=by omega
   obtain ⟨t,ht⟩:∃t,m.tris[i]=t:=⟨_,rfl⟩
   obtain ⟨gt,ct',e4,_,_,_,hsh,hR⟩:=HMS4.out.2.1.block (by intro e;rw [e]at hlt;simp at hlt)
   injection e4 with e4 _ e5
   subst e4 e5
   have hgt:=HTL.out gt rfl
   obtain ⟨u0,u1,u2⟩:=hR.fTri hlt ht
   have hgtw:gt<w4.heap.size:=by omega
   have hgtn:gt≠gn:=by omega
   rw [←HK.out.cell (b:=gt) (o:=i*3) hgtw (fun e=>hgtn (Option.some.inj e))]at u0
   rw [←HK.out.cell (b:=gt) (o:=i*3+1) hgtw (fun e=>hgtn (Option.some.inj e))]at u1
   rw [←HK.out.cell (b:=gt) (o:=i*3+2) hgtw (fun e=>hgtn (Option.some.inj e))]at u2
   clear hR hsh
   have hcur:(part3 fb m.tris i)[i]? =some t:=by rw [part3_get hlt,ht]
   have hnext:Hid (part3 fb m.tris (i+1)=(part3 fb m.tris i).set i (rot3 t (kOf fb i))):=Lib.hid (by rw [part3_succ hlt,ht])
   clear ht
   go_upto_if 40 with fail
   go_cut [10] (fun s wx=>s= .int .i64 (kOf fb i:Int)∧Gr wr.heap.size wr wx)
   case first=>
    by_cases hbs:fb.length=0
    ·have q2:decide (0<(fb.length:Int))=false:=decide_eq_false (by omega)
     have q3:¬0<fb.length:=by omega
     have hk8:Hid (kOf fb i=0):=Lib.hid (by unfold kOf;rw [if_pos hbs])
     clear hbs
     go_wp2_with fail
     go_meet
     exact⟨by rw [hk8.out];rfl,by(with_reducible (repeat' (first|exact Gr.refl _ _|refine Gr.drew ?_|refine Gr.setCell ?_ ?_ _|refine Gr.alloc ?_ ?_ _|omega|(simp;done)|(simp;omega))))⟩
    ·have q1:decide (0<(fb.length:Int))=true:=decide_eq_true (by omega)
     have q3:0<fb.length:=by omega
     obtain ⟨r,hr⟩:∃r,i % fb.length=r:=⟨_,rfl⟩
     have hr1:r<fb.length:=by rw [←hr];exact Nat.mod_lt _ (by omega)
     have hr2:(i:Int) % (fb.length:Int)=(r:Int):=by rw [←hr,Int.natCast_emod]
     have hr3:(i:Int).tmod (fb.length:Int)=(r:Int):=by rw [Int.tmod_eq_emod_of_nonneg (by omega)];exact hr2
     obtain ⟨x,hx⟩:∃x,fb[r]=x:=⟨_,rfl⟩
     have hx1:=HFB.out x (hx ▸ List.getElem_mem hr1)
     have hk9:=kOf_at hbs hr hr1 hx
     obtain ⟨gf,of,cap',e4,hgfl,hR⟩:=HFF.out.block (by intro e;rw [e]at q3;simp at q3)
     injection e4 with e4 _ e5
     subst e4 e5
     have u0:=hR r hr1
     rw [hx]at u0
     have u1:wr.cell? ⟨gf,of+r,none⟩=some (.int .u8 (x:Int)):=(HK.out.cell (b:=gf) (o:=of+r) (by omega) (fun e=>by have:=Option.some.inj e;omega)).trans ((HG4.out.cell (p:=⟨gf,of+r,none⟩) hgfl).trans u0)
     clear hR hr hx u0
     replace hk9:=Lib.hid hk9
     go_wp2_with fail
     go_meet
     exact⟨by rw [hk9.out],by(with_reducible (repeat' (first|exact Gr.refl _ _|refine Gr.drew ?_|refine Gr.setCell ?_ ?_ _|refine Gr.alloc ?_ ?_ _|omega|(simp;done)|(simp;omega))))⟩
   case rest=>
    obtain ⟨wx,hwx⟩:∃q,q=wc:=⟨_,rfl⟩
    subst hwx
    obtain ⟨rfl,hgx⟩:=hcut
    have hszx:=hgx.size
    obtain ⟨k,hk⟩:∃k,kOf fb i=k:=⟨_,rfl⟩
    have hk255:k≤255:=by rw [←hk];exact kOf_le HFB.out i
    rw [hk]
    rw [hk]at hnext
    clear hk
    have hgnr:gn<wr.heap.size:=by omega
    have u0x:=(hgx.cell (p:=⟨gt,i*3,none⟩) (by show gt< _;omega)).trans u0
    have u1x:=(hgx.cell (p:=⟨gt,i*3+1,none⟩) (by show gt< _;omega)).trans u1
    have u2x:=(hgx.cell (p:=⟨gt,i*3+2,none⟩) (by show gt< _;omega)).trans u2
    have n1x:=(hgx.cell (p:=⟨nb_,1,none⟩) hnl).trans n1
    have v1x:=(hgx.cell (p:=⟨mb,1,none⟩) hvl).trans (HVr.out.c 1 _ rfl)
    have HRX:=Lib.hid (HRN.out.gr hgx hgnr)
    have HKX:=Lib.hid (HK.out.trans (hgx.kp _))
    have HSX:=Lib.hid (show Shx wx gn 42 from HSN.out.kp (hgx.kp none) (by simp))
    clear u0 u1 u2 n1 hgx HRN HK HNr HVr
    have hnlx:nb_<wx.heap.size:=by omega
    have hgtx:gt<wx.heap.size:=by omega
    have hgnx:gn<wx.heap.size:=by omega
    have hmbx:mb<wx.heap.size:=by omega
    go_upto_region 12 with fail
    have HBX:=Lib.hid (show VB (wx.alloc (.cells #[.int .i64 (t.1:Int),.int .i64 (t.2.1:Int),.int .i64 (t.2.2:Int)] 42)) wx.heap.size [.int .i64 (t.1:Int),.int .i64 (t.2.1:Int),.int .i64 (t.2.2:Int)]from by(with_reducible (repeat' (first|(refine VB.new' ?_;exact(by first|omega|(simp;done)|(simp;omega)))|apply VB.put2|apply VB.put3|apply VB.put5|refine VB.drew ?_|refine VB.far ?_ ?_ _|refine VB.alloc ?_ _|omega|(simp;done)|(simp;omega)))))
    obtain ⟨q0',hq0⟩:∃q,k % 3=q:=⟨_,rfl⟩
    obtain ⟨k1,hk1⟩:∃q,k+1=q:=⟨_,rfl⟩
    obtain ⟨k2,hk2⟩:∃q,k+2=q:=⟨_,rfl⟩
    obtain ⟨q1',hq1⟩:∃q,k1 % 3=q:=⟨_,rfl⟩
    obtain ⟨q2',hq2⟩:∃q,k2 % 3=q:=⟨_,rfl⟩
    have hnx2:Hid (part3 fb m.tris (i+1)=(part3 fb m.tris i).set i (crn t q0',crn t q1',crn t q2')):=Lib.hid (by rw [hnext.out,rot3,hk1,hk2,hq0,hq1,hq2])
    have a0:(k:Int) % 3=(q0':Int):=by omega
    have a1:IntKind.i64.wrap ((k:Int)+1)=(k1:Int):=by rw [wrap64_id (by omega) (by omega)];omega
    have a2:IntKind.i64.wrap ((k:Int)+2)=(k2:Int):=by rw [wrap64_id (by omega) (by omega)];omega
    have a3:(k1:Int) % 3=(q1':Int):=by omega
    have a4:(k2:Int) % 3=(q2':Int):=by omega
    have b0:(k:Int).tmod 3=(q0':Int):=by rw [Int.tmod_eq_emod_of_nonneg (by omega)];exact a0
    have b3:(k1:Int).tmod 3=(q1':Int):=by rw [Int.tmod_eq_emod_of_nonneg (by omega)];exact a3
    have b4:(k2:Int).tmod 3=(q2':Int):=by rw [Int.tmod_eq_emod_of_nonneg (by omega)];exact a4
    have l0:q0'<3:=by omega
    have l1:q1'<3:=by omega
    have l2:q2'<3:=by omega
    have i0:(0:Int)≤(q0':Int):=by omega
    have i1:(0:Int)≤(q1':Int):=by omega
    have i2:(0:Int)≤(q2':Int):=by omega
    have j0:(q0':Int)<3:=by omega
    have j1:(q1':Int)<3:=by omega
    have j2:(q2':Int)<3:=by omega
    clear hq0 hq1 hq2 hk1 hk2 hnext
    have x0:=box_crn HBX.out l0
    have x1:=box_crn HBX.out l1
    have x2:=box_crn HBX.out l2
    obtain ⟨y0,hy0⟩:∃y,crn t q0'=y:=⟨_,rfl⟩
    obtain ⟨y1,hy1⟩:∃y,crn t q1'=y:=⟨_,rfl⟩
    obtain ⟨y2,hy2⟩:∃y,crn t q2'=y:=⟨_,rfl⟩
    rw [hy0]at x0 hnx2
    rw [hy1]at x1 hnx2
    rw [hy2]at x2 hnx2
    clear hy0 hy1 hy2
    have n1y:(wx.alloc (.cells #[.int .i64 (t.1:Int),.int .i64 (t.2.1:Int),.int .i64 (t.2.2:Int)] 42)).cell? ⟨nb_,1,none⟩=some (.slice (some ⟨gn,0,none⟩) m.tris.length dt):=by rw [←n1x];exact((Gr.refl _ _).alloc (Nat.le_refl _) _:Gr wx.heap.size wx _).cell (p:=⟨nb_,1,none⟩) hnlx
    have HRY:=Lib.hid (show RC triC 3 (wx.alloc (.cells #[.int .i64 (t.1:Int),.int .i64 (t.2.1:Int),.int .i64 (t.2.2:Int)] 42)) gn (part3 fb m.tris i)from HRX.out.gr (C:=wx.heap.size) (by(with_reducible (repeat' (first|exact Gr.refl _ _|refine Gr.drew ?_|refine Gr.setCell ?_ ?_ _|refine Gr.alloc ?_ ?_ _|omega|(simp;done)|(simp;omega))))) hgnx)
    have HKY:=Lib.hid (show Kp w4 (wx.alloc (.cells #[.int .i64 (t.1:Int),.int .i64 (t.2.1:Int),.int .i64 (t.2.2:Int)] 42)) (some gn)from HKX.out.trans ((show Gr wx.heap.size wx _ from by(with_reducible (repeat' (first|exact Gr.refl _ _|refine Gr.drew ?_|refine Gr.setCell ?_ ?_ _|refine Gr.alloc ?_ ?_ _|omega|(simp;done)|(simp;omega))))).kp _))
    have HSY:=Lib.hid (show Shx (wx.alloc (.cells #[.int .i64 (t.1:Int),.int .i64 (t.2.1:Int),.int .i64 (t.2.2:Int)] 42)) gn 42 from HSX.out.kp ((show Gr wx.heap.size wx _ from by(with_reducible (repeat' (first|exact Gr.refl _ _|refine Gr.drew ?_|refine Gr.setCell ?_ ?_ _|refine Gr.alloc ?_ ?_ _|omega|(simp;done)|(simp;omega))))).kp none) (by simp))
    have hsy:wx.heap.size<(wx.alloc (.cells #[.int .i64 (t.1:Int),.int .i64 (t.2.1:Int),.int .i64 (t.2.2:Int)] 42)).heap.size:=by simp
    generalize wx.alloc (.cells #[.int .i64 (t.1:Int),.int .i64 (t.2.1:Int),.int .i64 (t.2.2:Int)] 42)=wy at *
    generalize wx.heap.size=bx at *
    have hpl:=part3_len fb m.tris i (by omega)
    obtain ⟨hcl,hcg⟩:=List.getElem?_eq_some_iff.1 hcur
    obtain ⟨g0,g1,g2⟩:=HRY.out.fTri hcl hcg
    obtain ⟨NN,hNN⟩:=HSY.out
    have f0:=hNN.frozen (i*3)
    have f1:=hNN.frozen (i*3+1)
    have f2:=hNN.frozen (i*3+2)
    have HNN:=Lib.hid hNN
    clear hNN hcur hcg u0x u1x u2x n1x v1x
    have hbg:¬bx=gn:=by omega
    have hbg2:¬gn=bx:=by omega
    have hng:¬nb_=gn:=hngn
    have hng2:¬gn=nb_:=fun e=>hngn e.symm
    refine wp_region_held_drew (S:=(fun w'=>w'.cell? ⟨nb_,1,none⟩=some (.slice (some ⟨gn,0,none⟩) m.tris.length dt)∧w'.cell? ⟨bx,q0',none⟩=some (.int .i64 (y0:Int))∧w'.cell? ⟨bx,q1',none⟩=some (.int .i64 (y1:Int))∧w'.cell? ⟨bx,q2',none⟩=some (.int .i64 (y2:Int)))) (by kernel_rfl) ?_ (fun hHeld=>?_)
    ·simp [go_sem, *]
    refine tk 0 (some 54) (.pointer (some ⟨nb_,1,none⟩)) ?_
    try simp only [pS]
    refine tk 1 (some 55) (.slice (some ⟨gn,0,none⟩) m.tris.length dt) ?_
    try simp only [pS]
    refine tk 2 (some 56) (.int .i64 (i:Int)) ?_
    try simp only [pS]
    refine tk 3 (some 57) (.int .i64 (k:Int)) ?_
    try simp only [pS]
    refine tk 4 (some 58) (.int .i64 (q0':Int)) ?_
    try simp only [pS]
    refine tk 5 (some 59) (.pointer (some ⟨bx,q0',none⟩)) ?_
    try simp only [pS]
    refine tk 6 (some 60) (.int .i64 (y0:Int)) ?_
    try simp only [pS]
    refine tk 7 (some 61) (.int .i64 (k:Int)) ?_
    try simp only [pS]
    refine tk 8 (some 62) (.int .i64 (k1:Int)) ?_
    try simp only [pS]
    refine tk 9 (some 63) (.int .i64 (q1':Int)) ?_
    try simp only [pS]
    refine tk 10 (some 64) (.pointer (some ⟨bx,q1',none⟩)) ?_
    try simp only [pS]
    refine tk 11 (some 65) (.int .i64 (y1:Int)) ?_
    try simp only [pS]
    refine tk 12 (some 66) (.int .i64 (k:Int)) ?_
    try simp only [pS]
    refine tk 13 (some 67) (.int .i64 (k2:Int)) ?_
    try simp only [pS]
    refine tk 14 (some 68) (.int .i64 (q2':Int)) ?_
    try simp only [pS]
    refine tk 15 (some 69) (.pointer (some ⟨bx,q2',none⟩)) ?_
    try simp only [pS]
    refine tk 16 (some 70) (.int .i64 (y2:Int)) ?_
    try simp only [pS]
    refine tk 17 (some 71) (.agg #[.int .i64 (y0:Int),.int .i64 (y1:Int),.int .i64 (y2:Int)]) ?_
    try simp only [pS]
    refine tk 18 (some 72) (.pointer (some ⟨gn,i*3,none⟩)) ?_
    try simp only [pS]
    refine rd 19 (fun K hK=>?_)
    go_simp
    (try dsimp only)
    refine hK.out _ _ ?_ (fun hQ1=>?_)
    ·(first|exact trivial|((try dsimp only);simp [go_sem, *]))
    clear hK K hHeld
    try simp only [pS]
    refine wpAnyH_done (by kernel_rfl) ?_ _
    go_wp2
    go_roundw
    case rel=>
     skip
     exact⟨i+1,by omega,by go_num,Lib.hid (by rw [hnx2.out];exact put_row HRY.out HNN.out hcl y0 y1 y2),Lib.hid ⟨NN,Sh.sets (w:=wy.drew) HNN.out gn [.int .i64 (y0:Int),.int .i64 (y1:Int),.int .i64 (y2:Int)] (i*3)⟩,Lib.hid ((HKY.out.trans ((show Gr wy.heap.size wy wy.drew from by(with_reducible (repeat' (first|exact Gr.refl _ _|refine Gr.drew ?_|refine Gr.setCell ?_ ?_ _|refine Gr.alloc ?_ ?_ _|omega|(simp;done)|(simp;omega))))).kp _)).trans (Kp.sets wy.drew gn (i*3) [.int .i64 (y0:Int),.int .i64 (y1:Int),.int .i64 (y2:Int)]))⟩
    case measure=>simp [intOf];omega
  ·have hil:i=m.tris.length:=by omega
   subst hil
   have hRT:=HRN.out
   rw [part3_all]at hRT
   obtain ⟨w5,hw5⟩:∃q,q=wr:=⟨_,rfl⟩
   subst hw5
   have hgn5:gn<w5.heap.size:=by omega
   have HMS5:=Lib.hid (show MS w5 0 (.slice ap m.pts.length cp) (.slice at_ m.tris.length ct) (.slice as_ m.sides.length cs) m from⟨SR.kp HMS4.out.1 HK.out (fun g e e2=>by have:=HPL.out g e;have:=Option.some.inj e2;omega),SR.kp HMS4.out.2.1 HK.out (fun g e e2=>by have:=HTL.out g e;have:=Option.some.inj e2;omega),SR.kp HMS4.out.2.2 HK.out (fun g e e2=>by have:=HSL.out g e;have:=Option.some.inj e2;omega)⟩)
   have HMT5:=Lib.hid (show MS w5 0 (.slice bp m.pts.length dp) (.slice (some ⟨gn,0,none⟩) m.tris.length dt) (.slice bs_ m.sides.length ds) (turnM fb m)from⟨(SR.kp HCP.out HK.out (fun g e e2=>HBP.out g e (Option.some.inj e2))).mono (Nat.zero_le _),.inr ⟨gn,dt,by show _=Value.slice _ (turn3 fb m.tris).length _;rw [turn3_len],Nat.zero_le _,by show(turn3 fb m.tris).length≤_;rw [turn3_len];exact hdl,hdt,HSN.out,hRT⟩,(SR.kp HCS.out HK.out (fun g e e2=>HBS.out g e (Option.some.inj e2))).mono (Nat.zero_le _)⟩)
   have HG5:=Lib.hid (HG4.out.trans (HK.out.gr (fun b e=>by have:=Option.some.inj e;omega) (by omega)))
   clear HRN HSN HK HMS4 HCP HCS HBP HBS HTL HPL HSL hRT HG4 HV4 HN HFF4
   obtain ⟨N,hN⟩:∃q,numM o m=q:=⟨_,rfl⟩
   obtain ⟨E,hE⟩:∃q,(esM m.tris).length=q:=⟨_,rfl⟩
   have HNE:=Lib.hid (And.intro hN hE)
   have HNT:=Lib.hid (And.intro ((turn_num (bs:=fb) o HGD.out).trans hN) ((turn_len (bs:=fb) HGD.out).trans hE))
   clear hN hE
   have HTA:=Lib.hid (fun (W:World) (hW:Gr w5.heap.size w5 W)=>(show Calls Tryz.prog 7 #[.agg #[.slice ap m.pts.length cp,.slice at_ m.tris.length ct,.slice as_ m.sides.length cs],.int .i64 (o:Int)] W (fun e w'=> ∃(ax ay az:Option Addr) (cx cy cz:Nat),e= .returned (.tuple #[.agg #[.int .i64 (o:Int),.int .i64 (N:Int),.slice ax m.tris.length cx,.slice ay N cy,.slice az E cz],.int .i64 0])∧TabM w' W.heap.size o m (.slice ax m.tris.length cx) (.slice ay N cy) (.slice az E cz)∧Gr W.heap.size W w')from by
    refine(HOF.out W _ _ _ (HMS5.out.gr hW)).mono ?_
    rintro e w' ⟨x,y,z,rfl,hT,hg⟩
    obtain ⟨ax,ay,az,cx,cy,cz,rfl,rfl,rfl⟩:=hT.at
    rw [HNE.out.1,HNE.out.2]at hT
    rw [HNE.out.1,HNE.out.2]
    exact⟨ax,ay,az,cx,cy,cz,rfl,hT,hg⟩))
   clear HOF
   have c0:=HVr.out.c 0 _ rfl
   have c1:=HVr.out.c 1 _ rfl
   have c2:=HVr.out.c 2 _ rfl
   go_upto_region 13 with fail
   go_cut [12,13] (fun s8 s9 wx=> ∃(tb:Nat) (ax ay az:Option Addr) (cx cy cz:Nat),s8= .pointer (some ⟨tb,0,none⟩)∧s9= .int .i64 0∧VB wx tb [.int .i64 (o:Int),.int .i64 (N:Int),.slice ax m.tris.length cx,.slice ay N cy,.slice az E cz]∧TabM wx w5.heap.size o m (.slice ax m.tris.length cx) (.slice ay N cy) (.slice az E cz)∧w5.heap.size≤tb∧Gr w5.heap.size w5 wx)
   case first=>
    refine wp_region_held_drew (S:=(fun w'=>w'.cell? ⟨mb,0,none⟩=some (.slice ap m.pts.length cp)∧w'.cell? ⟨mb,1,none⟩=some (.slice at_ m.tris.length ct)∧w'.cell? ⟨mb,2,none⟩=some (.slice as_ m.sides.length cs))) (by kernel_rfl) ?_ (fun hHeld=>?_)
    ·simp [go_sem, *]
    refine tk 0 (some 74) (.agg #[.slice ap m.pts.length cp,.slice at_ m.tris.length ct,.slice as_ m.sides.length cs]) ?_
    try simp only [pS]
    refine tk 1 (some 75) (.bool two) ?_
    try simp only [pS]
    refine wpAnyH_ready (rs:= [2,7]) (by kernel_rfl) (by simp) ?_
    refine AllReadyH.cons rfl (fun K hK=>?_) (AllReadyH.cons rfl (fun K hK=>?_) AllReadyH.nil)
    ·go_simp
     (refine(HO.out _).mono ?_;rintro e w3 ⟨rfl,hg3⟩;(try (with_reducible replace hg3:=Gr.of_drew hg3));have hsz3:=hg3.size;(try simp at hsz3);have hy3_0:mb<w3.heap.size:=(by omega);obtain ⟨hc3,hf3⟩:=hg3.cells;have HG3:=Lib.hid hg3;clear hg3)
     (try dsimp only)
     refine hK.out _ _ ?_ (fun hQ1=>?_)
     ·(first|exact trivial|((try dsimp only);simp [go_sem, *]))
     clear hK K hHeld
     try simp only [pS]
     refine wpAnyH_ready (rs:= [3,7]) (by kernel_rfl) (by simp) ?_
     refine AllReadyH.cons rfl (fun K hK=>?_) (AllReadyH.cons rfl (fun K hK=>?_) AllReadyH.nil)
     ·go_simp
      (refine(HTA.out _ (by(with_reducible (repeat' (first|exact Gr.refl _ _|refine Gr.drew ?_|refine Gr.setCell ?_ ?_ _|refine Gr.alloc ?_ ?_ _|refine Gr.trans ?_ (Gr.mono HG3.out ?_)|omega|(simp;done)|(simp;omega)))))).mono ?_;rintro e w4 ⟨ax,ay,az,cx,cy,cz,rfl,hT4,hg4⟩;(try (with_reducible replace hg4:=Gr.of_drew hg4));have hsz4:=hg4.size;(try simp at hsz4);have hy4:mb<w4.heap.size:=(by omega);(try (have hy5:w5.heap.size<w4.heap.size:=(by omega)));obtain ⟨hc4,hf4⟩:=hg4.cells;have HT4:=Lib.hid hT4;have HG4:=Lib.hid hg4;clear hT4 hg4)
      (try dsimp only)
      refine hK.out _ _ ?_ (fun hQ2=>?_)
      ·(first|exact trivial|((try dsimp only);simp [go_sem, *]))
      clear hK K hQ1
      try simp only [pS]
      refine tk 4 (some 73) (.tuple #[.agg #[.int .i64 (o:Int),.int .i64 (N:Int),.slice ax m.tris.length cx,.slice ay N cy,.slice az E cz],.int .i64 0]) ?_
      try simp only [pS]
      refine tk 5 (some 78) (.agg #[.int .i64 (o:Int),.int .i64 (N:Int),.slice ax m.tris.length cx,.slice ay N cy,.slice az E cz]) ?_
      try simp only [pS]
      refine tk 6 (some 79) (.int .i64 0) ?_
      try simp only [pS]
      refine rd 7 (fun K hK=>?_)
      go_simp
      (try dsimp only)
      refine hK.out _ _ ?_ (fun hQ3=>?_)
      ·(first|exact trivial|((try dsimp only);simp [go_sem, *]))
      clear hK K hQ2
      try simp only [pS]
      refine rd 8 (fun K hK=>?_)
      go_simp
      (try dsimp only)
      refine hK.out _ _ ?_ (fun hQ4=>?_)
      ·(first|exact trivial|((try dsimp only);simp [go_sem, *]))
      clear hK K hQ3
      try simp only [pS]
      refine rd 9 (fun K hK=>?_)
      go_simp
      (try dsimp only)
      refine hK.out _ _ ?_ (fun hQ5=>?_)
      ·(first|exact trivial|((try dsimp only);simp [go_sem, *]))
      clear hK K hQ4
      try simp only [pS]
      refine wpAnyH_done (by kernel_rfl) ?_ _
      go_wp2_with fail
      go_meet
      refine⟨w4.heap.size,ax,ay,az,cx,cy,cz,rfl,rfl,by(with_reducible (repeat' (first|(refine VB.new' ?_;exact(by first|omega|(simp;done)|(simp;omega)))|apply VB.put2|apply VB.put3|apply VB.put5|refine VB.drew ?_|refine VB.far ?_ ?_ _|refine VB.alloc ?_ _|omega|(simp;done)|(simp;omega)))),(HT4.out.gr (by(with_reducible (repeat' (first|exact Gr.refl _ _|refine Gr.drew ?_|refine Gr.setCell ?_ ?_ _|refine Gr.alloc ?_ ?_ _|omega|(simp;done)|(simp;omega)))))).mono (by omega),by omega,by(with_reducible (repeat' (first|exact Gr.refl _ _|refine Gr.drew ?_|refine Gr.setCell ?_ ?_ _|refine Gr.alloc ?_ ?_ _|refine Gr.trans ?_ (Gr.mono HG4.out ?_)|refine Gr.trans ?_ (Gr.mono HG3.out ?_)|omega|(simp;done)|(simp;omega))))⟩
     ·go_simp
      (try dsimp only)
      refine hK.out _ _ ?_ (fun hQ2=>?_)
      ·(first|exact trivial|((try dsimp only);simp [go_sem, *]))
      clear hK K hQ1
      try simp only [pS]
      refine rd 3 (fun K hK=>?_)
      go_simp
      (refine(HTA.out _ (by(with_reducible (repeat' (first|exact Gr.refl _ _|refine Gr.drew ?_|refine Gr.setCell ?_ ?_ _|refine Gr.alloc ?_ ?_ _|refine Gr.trans ?_ (Gr.mono HG3.out ?_)|omega|(simp;done)|(simp;omega)))))).mono ?_;rintro e w4 ⟨ax,ay,az,cx,cy,cz,rfl,hT4,hg4⟩;(try (with_reducible replace hg4:=Gr.of_drew hg4));have hsz4:=hg4.size;(try simp at hsz4);have hy4:mb<w4.heap.size:=(by omega);(try (have hy5:w5.heap.size<w4.heap.size:=(by omega)));obtain ⟨hc4,hf4⟩:=hg4.cells;have HT4:=Lib.hid hT4;have HG4:=Lib.hid hg4;clear hT4 hg4)
      (try dsimp only)
      refine hK.out _ _ ?_ (fun hQ3=>?_)
      ·(first|exact trivial|((try dsimp only);simp [go_sem, *]))
      clear hK K hQ2
      try simp only [pS]
      refine tk 4 (some 73) (.tuple #[.agg #[.int .i64 (o:Int),.int .i64 (N:Int),.slice ax m.tris.length cx,.slice ay N cy,.slice az E cz],.int .i64 0]) ?_
      try simp only [pS]
      refine tk 5 (some 78) (.agg #[.int .i64 (o:Int),.int .i64 (N:Int),.slice ax m.tris.length cx,.slice ay N cy,.slice az E cz]) ?_
      try simp only [pS]
      refine tk 6 (some 79) (.int .i64 0) ?_
      try simp only [pS]
      refine rd 8 (fun K hK=>?_)
      go_simp
      (try dsimp only)
      refine hK.out _ _ ?_ (fun hQ4=>?_)
      ·(first|exact trivial|((try dsimp only);simp [go_sem, *]))
      clear hK K hQ3
      try simp only [pS]
      refine rd 9 (fun K hK=>?_)
      go_simp
      (try dsimp only)
      refine hK.out _ _ ?_ (fun hQ5=>?_)
      ·(first|exact trivial|((try dsimp only);simp [go_sem, *]))
      clear hK K hQ4
      try simp only [pS]
      refine wpAnyH_done (by kernel_rfl) ?_ _
      go_wp2_with fail
      go_meet
      refine⟨w3.heap.size,ax,ay,az,cx,cy,cz,rfl,rfl,by(with_reducible (repeat' (first|(refine VB.new' ?_;exact(by first|omega|(simp;done)|(simp;omega)))|apply VB.put2|apply VB.put3|apply VB.put5|refine VB.drew ?_|refine VB.far ?_ ?_ _|refine VB.alloc ?_ _|refine VB.gr ?_ HG4.out ?_|omega|(simp;done)|(simp;omega)))),(HT4.out.kp (Kp.sets w4 (w3.heap.size) 0 [.int .i64 (o:Int),.int .i64 (N:Int),.slice ax m.tris.length cx,.slice ay N cy,.slice az E cz]) (fun g e=>by have:=Option.some.inj e;simp;omega)).mono (by simp;omega),by omega,by(with_reducible (repeat' (first|exact Gr.refl _ _|refine Gr.drew ?_|refine Gr.setCell ?_ ?_ _|refine Gr.alloc ?_ ?_ _|refine Gr.trans ?_ (Gr.mono HG4.out ?_)|refine Gr.trans ?_ (Gr.mono HG3.out ?_)|omega|(simp;done)|(simp;omega))))⟩
    ·go_simp
     (try dsimp only)
     refine hK.out _ _ ?_ (fun hQ1=>?_)
     ·(first|exact trivial|((try dsimp only);simp [go_sem, *]))
     clear hK K hHeld
     try simp only [pS]
     refine rd 2 (fun K hK=>?_)
     go_simp
     (refine(HO.out _).mono ?_;rintro e w3 ⟨rfl,hg3⟩;(try (with_reducible replace hg3:=Gr.of_drew hg3));have hsz3:=hg3.size;(try simp at hsz3);have hy3_0:mb<w3.heap.size:=(by omega);have hy3_1:w5.heap.size<w3.heap.size:=(by omega);obtain ⟨hc3,hf3⟩:=hg3.cells;have HG3:=Lib.hid hg3;clear hg3)
     (try dsimp only)
     refine hK.out _ _ ?_ (fun hQ2=>?_)
     ·(first|exact trivial|((try dsimp only);simp [go_sem, *]))
     clear hK K hQ1
     try simp only [pS]
     refine rd 3 (fun K hK=>?_)
     go_simp
     (refine(HTA.out _ (by(with_reducible (repeat' (first|exact Gr.refl _ _|refine Gr.drew ?_|refine Gr.setCell ?_ ?_ _|refine Gr.alloc ?_ ?_ _|refine Gr.trans ?_ (Gr.mono HG3.out ?_)|omega|(simp;done)|(simp;omega)))))).mono ?_;rintro e w4 ⟨ax,ay,az,cx,cy,cz,rfl,hT4,hg4⟩;(try (with_reducible replace hg4:=Gr.of_drew hg4));have hsz4:=hg4.size;(try simp at hsz4);have hy4:mb<w4.heap.size:=(by omega);(try (have hy5:w5.heap.size<w4.heap.size:=(by omega)));obtain ⟨hc4,hf4⟩:=hg4.cells;have HT4:=Lib.hid hT4;have HG4:=Lib.hid hg4;clear hT4 hg4)
     (try dsimp only)
     refine hK.out _ _ ?_ (fun hQ3=>?_)
     ·(first|exact trivial|((try dsimp only);simp [go_sem, *]))
     clear hK K hQ2
     try simp only [pS]
     refine tk 4 (some 73) (.tuple #[.agg #[.int .i64 (o:Int),.int .i64 (N:Int),.slice ax m.tris.length cx,.slice ay N cy,.slice az E cz],.int .i64 0]) ?_
     try simp only [pS]
     refine tk 5 (some 78) (.agg #[.int .i64 (o:Int),.int .i64 (N:Int),.slice ax m.tris.length cx,.slice ay N cy,.slice az E cz]) ?_
     try simp only [pS]
     refine tk 6 (some 79) (.int .i64 0) ?_
     try simp only [pS]
     refine rd 8 (fun K hK=>?_)
     go_simp
     (try dsimp only)
     refine hK.out _ _ ?_ (fun hQ4=>?_)
     ·(first|exact trivial|((try dsimp only);simp [go_sem, *]))
     clear hK K hQ3
     try simp only [pS]
     refine rd 9 (fun K hK=>?_)
     go_simp
     (try dsimp only)
     refine hK.out _ _ ?_ (fun hQ5=>?_)
     ·(first|exact trivial|((try dsimp only);simp [go_sem, *]))
     clear hK K hQ4
     try simp only [pS]
     refine wpAnyH_done (by kernel_rfl) ?_ _
     go_wp2_with fail
     go_meet
     refine⟨w5.heap.size,ax,ay,az,cx,cy,cz,rfl,rfl,by(with_reducible (repeat' (first|(refine VB.new' ?_;exact(by first|omega|(simp;done)|(simp;omega)))|apply VB.put2|apply VB.put3|apply VB.put5|refine VB.drew ?_|refine VB.far ?_ ?_ _|refine VB.alloc ?_ _|refine VB.gr ?_ HG4.out ?_|refine VB.gr ?_ HG3.out ?_|omega|(simp;done)|(simp;omega)))),(HT4.out.kp (Kp.sets w4 (w5.heap.size) 0 [.int .i64 (o:Int),.int .i64 (N:Int),.slice ax m.tris.length cx,.slice ay N cy,.slice az E cz]) (fun g e=>by have:=Option.some.inj e;omega)).mono (by omega),by omega,by(with_reducible (repeat' (first|exact Gr.refl _ _|refine Gr.drew ?_|refine Gr.setCell ?_ ?_ _|refine Gr.alloc ?_ ?_ _|refine Gr.trans ?_ (Gr.mono HG4.out ?_)|refine Gr.trans ?_ (Gr.mono HG3.out ?_)|omega|(simp;done)|(simp;omega))))⟩
   case rest=>
    obtain ⟨w6,hw6⟩:∃q,q=wc:=⟨_,rfl⟩
    subst hw6
    obtain ⟨tb,ax,ay,az,cx,cy,cz,rfl,rfl,hTV,hTM,htb,hgb⟩:=hcut
    have hszb:=hgb.size
    have HTV:=Lib.hid hTV
    have HTM:=Lib.hid hTM
    have htl:=hTV.lt
    have HG6:=Lib.hid (HG5.out.trans (hgb.mono (by omega)))
    have HN6:=Lib.hid (HNr.out.gr hgb hnl)
    have HMT6:=Lib.hid (HMT5.out.gr hgb)
    have hnb6:nb_<w6.heap.size:=by omega
    have hw56:w5.heap.size≤w6.heap.size:=hszb
    clear c0 c1 c2 n1 HTA hTV hTM hgb HG5 HNr HVr HMT5 HMS5
    have HOT3:=Lib.hid (fun (W:World) a b c (h:MS W 0 a b c (turnM fb m))=>HOT2.out W a b c h)
    clear HOT2
    have HTB:=Lib.hid (fun (W:World) (hW:Gr w6.heap.size w6 W)=>(show Calls Tryz.prog 7 #[.agg #[.slice bp m.pts.length dp,.slice (some ⟨gn,0,none⟩) m.tris.length dt,.slice bs_ m.sides.length ds],.int .i64 (o:Int)] W (fun e w'=> ∃(ax ay az:Option Addr) (cx cy cz:Nat),e= .returned (.tuple #[.agg #[.int .i64 (o:Int),.int .i64 (N:Int),.slice ax m.tris.length cx,.slice ay N cy,.slice az E cz],.int .i64 0])∧TabM w' W.heap.size o (turnM fb m) (.slice ax m.tris.length cx) (.slice ay N cy) (.slice az E cz)∧Gr W.heap.size W w')from by
     refine(HOT3.out W _ _ _ (HMT6.out.gr hW)).mono ?_
     rintro e w' ⟨x,y,z,rfl,hT,hg⟩
     obtain ⟨ax,ay,az,cx,cy,cz,rfl,rfl,rfl⟩:=hT.at
     simp only [show(turnM fb m).tris=turn3 fb m.tris from rfl,turn3_len]at hT ⊢
     rw [HNT.out.1,HNT.out.2]at hT
     rw [HNT.out.1,HNT.out.2]
     exact⟨ax,ay,az,cx,cy,cz,rfl,hT,hg⟩))
    have d0:=HN6.out.c 0 _ rfl
    have d1:=HN6.out.c 1 _ rfl
    have d2:=HN6.out.c 2 _ rfl
    have hOO:=HO
    go_upto_region 14 with fail
    go_cut [14,15] (fun s8 s9 wx=> ∃(tb:Nat) (ax ay az:Option Addr) (cx cy cz:Nat),s8= .pointer (some ⟨tb,0,none⟩)∧s9= .int .i64 0∧VB wx tb [.int .i64 (o:Int),.int .i64 (N:Int),.slice ax m.tris.length cx,.slice ay N cy,.slice az E cz]∧TabM wx w6.heap.size o (turnM fb m) (.slice ax m.tris.length cx) (.slice ay N cy) (.slice az E cz)∧w6.heap.size≤tb∧Gr w6.heap.size w6 wx)
    case first=>
     refine wp_region_held_drew (S:=(fun w'=>w'.cell? ⟨nb_,0,none⟩=some (.slice bp m.pts.length dp)∧w'.cell? ⟨nb_,1,none⟩=some (.slice (some ⟨gn,0,none⟩) m.tris.length dt)∧w'.cell? ⟨nb_,2,none⟩=some (.slice bs_ m.sides.length ds))) (by kernel_rfl) ?_ (fun hHeld=>?_)
     ·simp [go_sem, *]
     refine tk 0 (some 81) (.agg #[.slice bp m.pts.length dp,.slice (some ⟨gn,0,none⟩) m.tris.length dt,.slice bs_ m.sides.length ds]) ?_
     try simp only [pS]
     refine tk 1 (some 82) (.bool two) ?_
     try simp only [pS]
     refine wpAnyH_ready (rs:= [2,7]) (by kernel_rfl) (by simp) ?_
     refine AllReadyH.cons rfl (fun K hK=>?_) (AllReadyH.cons rfl (fun K hK=>?_) AllReadyH.nil)
     ·go_simp
      (refine(HO.out _).mono ?_;rintro e w3 ⟨rfl,hg3⟩;(try (with_reducible replace hg3:=Gr.of_drew hg3));have hsz3:=hg3.size;(try simp at hsz3);have hy3_0:nb_<w3.heap.size:=(by omega);obtain ⟨hc3,hf3⟩:=hg3.cells;have HG3:=Lib.hid hg3;clear hg3)
      (try dsimp only)
      refine hK.out _ _ ?_ (fun hQ1=>?_)
      ·(first|exact trivial|((try dsimp only);simp [go_sem, *]))
      clear hK K hHeld
      try simp only [pS]
      refine wpAnyH_ready (rs:= [3,7]) (by kernel_rfl) (by simp) ?_
      refine AllReadyH.cons rfl (fun K hK=>?_) (AllReadyH.cons rfl (fun K hK=>?_) AllReadyH.nil)
      ·go_simp
       (refine(HTB.out _ (by(with_reducible (repeat' (first|exact Gr.refl _ _|refine Gr.drew ?_|refine Gr.setCell ?_ ?_ _|refine Gr.alloc ?_ ?_ _|refine Gr.trans ?_ (Gr.mono HG3.out ?_)|omega|(simp;done)|(simp;omega)))))).mono ?_;rintro e w4 ⟨ax,ay,az,cx,cy,cz,rfl,hT4,hg4⟩;(try (with_reducible replace hg4:=Gr.of_drew hg4));have hsz4:=hg4.size;(try simp at hsz4);have hy4:nb_<w4.heap.size:=(by omega);(try (have hy5:w6.heap.size<w4.heap.size:=(by omega)));obtain ⟨hc4,hf4⟩:=hg4.cells;have HT4:=Lib.hid hT4;have HG4:=Lib.hid hg4;clear hT4 hg4)
       (try dsimp only)
       refine hK.out _ _ ?_ (fun hQ2=>?_)
       ·(first|exact trivial|((try dsimp only);simp [go_sem, *]))
       clear hK K hQ1
       try simp only [pS]
       refine tk 4 (some 80) (.tuple #[.agg #[.int .i64 (o:Int),.int .i64 (N:Int),.slice ax m.tris.length cx,.slice ay N cy,.slice az E cz],.int .i64 0]) ?_
       try simp only [pS]
       refine tk 5 (some 85) (.agg #[.int .i64 (o:Int),.int .i64 (N:Int),.slice ax m.tris.length cx,.slice ay N cy,.slice az E cz]) ?_
       try simp only [pS]
       refine tk 6 (some 86) (.int .i64 0) ?_
       try simp only [pS]
       refine rd 7 (fun K hK=>?_)
       go_simp
       (try dsimp only)
       refine hK.out _ _ ?_ (fun hQ3=>?_)
       ·(first|exact trivial|((try dsimp only);simp [go_sem, *]))
       clear hK K hQ2
       try simp only [pS]
       refine rd 8 (fun K hK=>?_)
       go_simp
       (try dsimp only)
       refine hK.out _ _ ?_ (fun hQ4=>?_)
       ·(first|exact trivial|((try dsimp only);simp [go_sem, *]))
       clear hK K hQ3
       try simp only [pS]
       refine rd 9 (fun K hK=>?_)
       go_simp
       (try dsimp only)
       refine hK.out _ _ ?_ (fun hQ5=>?_)
       ·(first|exact trivial|((try dsimp only);simp [go_sem, *]))
       clear hK K hQ4
       try simp only [pS]
       refine wpAnyH_done (by kernel_rfl) ?_ _
       go_wp2_with fail
       go_meet
       refine⟨w4.heap.size,ax,ay,az,cx,cy,cz,rfl,rfl,by(with_reducible (repeat' (first|(refine VB.new' ?_;exact(by first|omega|(simp;done)|(simp;omega)))|apply VB.put2|apply VB.put3|apply VB.put5|refine VB.drew ?_|refine VB.far ?_ ?_ _|refine VB.alloc ?_ _|omega|(simp;done)|(simp;omega)))),(HT4.out.gr (by(with_reducible (repeat' (first|exact Gr.refl _ _|refine Gr.drew ?_|refine Gr.setCell ?_ ?_ _|refine Gr.alloc ?_ ?_ _|omega|(simp;done)|(simp;omega)))))).mono (by omega),by omega,by(with_reducible (repeat' (first|exact Gr.refl _ _|refine Gr.drew ?_|refine Gr.setCell ?_ ?_ _|refine Gr.alloc ?_ ?_ _|refine Gr.trans ?_ (Gr.mono HG4.out ?_)|refine Gr.trans ?_ (Gr.mono HG3.out ?_)|omega|(simp;done)|(simp;omega))))⟩
      ·go_simp
       (try dsimp only)
       refine hK.out _ _ ?_ (fun hQ2=>?_)
       ·(first|exact trivial|((try dsimp only);simp [go_sem, *]))
       clear hK K hQ1
       try simp only [pS]
       refine rd 3 (fun K hK=>?_)
       go_simp
       (refine(HTB.out _ (by(with_reducible (repeat' (first|exact Gr.refl _ _|refine Gr.drew ?_|refine Gr.setCell ?_ ?_ _|refine Gr.alloc ?_ ?_ _|refine Gr.trans ?_ (Gr.mono HG3.out ?_)|omega|(simp;done)|(simp;omega)))))).mono ?_;rintro e w4 ⟨ax,ay,az,cx,cy,cz,rfl,hT4,hg4⟩;(try (with_reducible replace hg4:=Gr.of_drew hg4));have hsz4:=hg4.size;(try simp at hsz4);have hy4:nb_<w4.heap.size:=(by omega);(try (have hy5:w6.heap.size<w4.heap.size:=(by omega)));obtain ⟨hc4,hf4⟩:=hg4.cells;have HT4:=Lib.hid hT4;have HG4:=Lib.hid hg4;clear hT4 hg4)
       (try dsimp only)
       refine hK.out _ _ ?_ (fun hQ3=>?_)
       ·(first|exact trivial|((try dsimp only);simp [go_sem, *]))
       clear hK K hQ2
       try simp only [pS]
       refine tk 4 (some 80) (.tuple #[.agg #[.int .i64 (o:Int),.int .i64 (N:Int),.slice ax m.tris.length cx,.slice ay N cy,.slice az E cz],.int .i64 0]) ?_
       try simp only [pS]
       refine tk 5 (some 85) (.agg #[.int .i64 (o:Int),.int .i64 (N:Int),.slice ax m.tris.length cx,.slice ay N cy,.slice az E cz]) ?_
       try simp only [pS]
       refine tk 6 (some 86) (.int .i64 0) ?_
       try simp only [pS]
       refine rd 8 (fun K hK=>?_)
       go_simp
       (try dsimp only)
       refine hK.out _ _ ?_ (fun hQ4=>?_)
       ·(first|exact trivial|((try dsimp only);simp [go_sem, *]))
       clear hK K hQ3
       try simp only [pS]
       refine rd 9 (fun K hK=>?_)
       go_simp
       (try dsimp only)
       refine hK.out _ _ ?_ (fun hQ5=>?_)
       ·(first|exact trivial|((try dsimp only);simp [go_sem, *]))
       clear hK K hQ4
       try simp only [pS]
       refine wpAnyH_done (by kernel_rfl) ?_ _
       go_wp2_with fail
       go_meet
       refine⟨w3.heap.size,ax,ay,az,cx,cy,cz,rfl,rfl,by(with_reducible (repeat' (first|(refine VB.new' ?_;exact(by first|omega|(simp;done)|(simp;omega)))|apply VB.put2|apply VB.put3|apply VB.put5|refine VB.drew ?_|refine VB.far ?_ ?_ _|refine VB.alloc ?_ _|refine VB.gr ?_ HG4.out ?_|omega|(simp;done)|(simp;omega)))),(HT4.out.kp (Kp.sets w4 (w3.heap.size) 0 [.int .i64 (o:Int),.int .i64 (N:Int),.slice ax m.tris.length cx,.slice ay N cy,.slice az E cz]) (fun g e=>by have:=Option.some.inj e;simp;omega)).mono (by simp;omega),by omega,by(with_reducible (repeat' (first|exact Gr.refl _ _|refine Gr.drew ?_|refine Gr.setCell ?_ ?_ _|refine Gr.alloc ?_ ?_ _|refine Gr.trans ?_ (Gr.mono HG4.out ?_)|refine Gr.trans ?_ (Gr.mono HG3.out ?_)|omega|(simp;done)|(simp;omega))))⟩
     ·go_simp
      (try dsimp only)
      refine hK.out _ _ ?_ (fun hQ1=>?_)
      ·(first|exact trivial|((try dsimp only);simp [go_sem, *]))
      clear hK K hHeld
      try simp only [pS]
      refine rd 2 (fun K hK=>?_)
      go_simp
      (refine(HO.out _).mono ?_;rintro e w3 ⟨rfl,hg3⟩;(try (with_reducible replace hg3:=Gr.of_drew hg3));have hsz3:=hg3.size;(try simp at hsz3);have hy3_0:nb_<w3.heap.size:=(by omega);have hy3_1:w6.heap.size<w3.heap.size:=(by omega);obtain ⟨hc3,hf3⟩:=hg3.cells;have HG3:=Lib.hid hg3;clear hg3)
      (try dsimp only)
      refine hK.out _ _ ?_ (fun hQ2=>?_)
      ·(first|exact trivial|((try dsimp only);simp [go_sem, *]))
      clear hK K hQ1
      try simp only [pS]
      refine rd 3 (fun K hK=>?_)
      go_simp
      (refine(HTB.out _ (by(with_reducible (repeat' (first|exact Gr.refl _ _|refine Gr.drew ?_|refine Gr.setCell ?_ ?_ _|refine Gr.alloc ?_ ?_ _|refine Gr.trans ?_ (Gr.mono HG3.out ?_)|omega|(simp;done)|(simp;omega)))))).mono ?_;rintro e w4 ⟨ax,ay,az,cx,cy,cz,rfl,hT4,hg4⟩;(try (with_reducible replace hg4:=Gr.of_drew hg4));have hsz4:=hg4.size;(try simp at hsz4);have hy4:nb_<w4.heap.size:=(by omega);(try (have hy5:w6.heap.size<w4.heap.size:=(by omega)));obtain ⟨hc4,hf4⟩:=hg4.cells;have HT4:=Lib.hid hT4;have HG4:=Lib.hid hg4;clear hT4 hg4)
      (try dsimp only)
      refine hK.out _ _ ?_ (fun hQ3=>?_)
      ·(first|exact trivial|((try dsimp only);simp [go_sem, *]))
      clear hK K hQ2
      try simp only [pS]
      refine tk 4 (some 80) (.tuple #[.agg #[.int .i64 (o:Int),.int .i64 (N:Int),.slice ax m.tris.length cx,.slice ay N cy,.slice az E cz],.int .i64 0]) ?_
      try simp only [pS]
      refine tk 5 (some 85) (.agg #[.int .i64 (o:Int),.int .i64 (N:Int),.slice ax m.tris.length cx,.slice ay N cy,.slice az E cz]) ?_
      try simp only [pS]
      refine tk 6 (some 86) (.int .i64 0) ?_
      try simp only [pS]
      refine rd 8 (fun K hK=>?_)
      go_simp
      (try dsimp only)
      refine hK.out _ _ ?_ (fun hQ4=>?_)
      ·(first|exact trivial|((try dsimp only);simp [go_sem, *]))
      clear hK K hQ3
      try simp only [pS]
      refine rd 9 (fun K hK=>?_)
      go_simp
      (try dsimp only)
      refine hK.out _ _ ?_ (fun hQ5=>?_)
      ·(first|exact trivial|((try dsimp only);simp [go_sem, *]))
      clear hK K hQ4
      try simp only [pS]
      refine wpAnyH_done (by kernel_rfl) ?_ _
      go_wp2_with fail
      go_meet
      refine⟨w6.heap.size,ax,ay,az,cx,cy,cz,rfl,rfl,by(with_reducible (repeat' (first|(refine VB.new' ?_;exact(by first|omega|(simp;done)|(simp;omega)))|apply VB.put2|apply VB.put3|apply VB.put5|refine VB.drew ?_|refine VB.far ?_ ?_ _|refine VB.alloc ?_ _|refine VB.gr ?_ HG4.out ?_|refine VB.gr ?_ HG3.out ?_|omega|(simp;done)|(simp;omega)))),(HT4.out.kp (Kp.sets w4 (w6.heap.size) 0 [.int .i64 (o:Int),.int .i64 (N:Int),.slice ax m.tris.length cx,.slice ay N cy,.slice az E cz]) (fun g e=>by have:=Option.some.inj e;omega)).mono (by omega),by omega,by(with_reducible (repeat' (first|exact Gr.refl _ _|refine Gr.drew ?_|refine Gr.setCell ?_ ?_ _|refine Gr.alloc ?_ ?_ _|refine Gr.trans ?_ (Gr.mono HG4.out ?_)|refine Gr.trans ?_ (Gr.mono HG3.out ?_)|omega|(simp;done)|(simp;omega))))⟩
    case rest=>
     obtain ⟨w7,hw7⟩:∃q,q=wc:=⟨_,rfl⟩
     subst hw7
     obtain ⟨tc,ex,ey,ez,gx,gy,gz,rfl,rfl,hTV7,hTM7,htc,hgb⟩:=hcut
     have hszc:=hgb.size
     have HUV:=Lib.hid hTV7
     have HUM:=Lib.hid hTM7
     have HTV7:=Lib.hid (HTV.out.gr hgb htl)
     have HTM7:=Lib.hid (HTM.out.gr hgb)
     have HG7:=Lib.hid (HG6.out.trans (hgb.mono (by omega)))
     have htl7:=HTV7.out.lt
     have hul7:=HUV.out.lt
     clear d0 d1 d2 HTB HO hOO hTV7 hTM7 hgb HTV HTM HG6 HMT6 HN6 HOT3
     refine(by assumption:∀(a:Act) (w:World),_→_) _ _ ?_
     exact turned_tail w w7 m o N E tb tc ax ay az ex ey ez cx cy cz gx gy gz fa fb fc HG7.out HFF.out HFB.out hT HGD.out HO2.out HNE.out HTV7.out HUV.out (HTM7.out.mono (Nat.zero_le _)) (HUM.out.mono (Nat.zero_le _)) hP
end Go.Proofs.YtmbmeggbojfecaaGreat
