/-
  Part 49 of the proof: FluI.
-/
import Derived.Test.YtfgmdhjmgdccdaaGreatJ48
set_option linter.unusedSimpArgs false
set_option linter.unusedVariables false
set_option maxHeartbeats 8000000
namespace Go.Proofs.YtfgmdhjmgdccdaaGreat
open Go.RowKit Gus Go.Maps
set_option maxRecDepth 20000 in
theorem law_interp {m:Msh} (g:GoodF m) (hsd:m.sides.length≤1000000) (gx gy:List T) (nx ny dn fi n0 n1 c0 c1 e0 e1 e2:Nat) (m0 m1 m2 m3 k0 k1 k2:Int) (bv:Value) (p0 p1:Option Addr) (w:World) (hM:∀W,Gr w.heap.size w W→Calls Tryz.prog 20 #[.agg #[.int .u8 (nx:Int),.int .u8 (ny:Int),bv,.int .i8 m0,.int .i8 m1,.int .i8 m2,.int .i8 m3,.int .u8 (dn:Int),.int .u8 (fi:Int)]] W (fun e w'=> ∃a b c,e= .returned (.agg #[a,b,c])∧MS w' W.heap.size a b c m∧Gr W.heap.size W w')) (hD0:n0≤6→∀W,Gr w.heap.size w W→Calls Tryz.prog 21 #[.slice p0 n0 c0,.int .i64 4] W (RetP W gx)) (hD1:n1≤6→∀W,Gr w.heap.size w W→Calls Tryz.prog 21 #[.slice p1 n1 c1,.int .i64 4] W (RetP W gy)) (dx:D4 gx) (dy:D4 gy) (tx:tot gx≤100) (ty:tot gy≤100) (hk0:i64ok k0) (he0:e0<4294967296) (hk1:i64ok k1) (he1:e1<4294967296) (hk2:i64ok k2) (he2:e2<4294967296) (hLv:∀W,Calls Tryz.prog 5 #[] W (Ret W (.bool true))):
  Calls Tryz.prog 4 #[.agg #[.int .u8 (nx:Int),.int .u8 (ny:Int),bv,.int .i8 m0,.int .i8 m1,.int .i8 m2,.int .i8 m3,.int .u8 (dn:Int),.int .u8 (fi:Int)],.agg #[.slice p0 n0 c0,.slice p1 n1 c1],.agg #[.int .i64 k0,.int .u32 (e0:Int),.int .i64 k1,.int .u32 (e1:Int),.int .i64 k2,.int .u32 (e2:Int)]] w (Ret w (.bool true)):=by
 have HM:=Lh hM
 have HD0:=Lh hD0
 have HD1:=Lh hD1
 have HLv:=Lh hLv
 have G:=Lh g
 have HSD:=Lh hsd
 have HQK:=Lh (And.intro hk0 (And.intro hk1 (And.intro hk2 (And.intro he0 (And.intro he1 he2)))))
 have HDT:=Lh (And.intro dx (And.intro dy (And.intro tx ty)))
 clear hM hD0 hD1 hLv g hsd hk0 hk1 hk2 he0 he1 he2 dx dy tx ty
 go_enter Tryz.func4,Tryz.ntmps4
 by_cases h0:6<n0
 ·have q0:(6:Int)<(n0:Int):=by omega
  go_wp2_with fail
  (refine rtt (HLv.out _) fun w1 hsz1 hc1 hf1 HG1=>?_;(try simp at hsz1);have hp1_1_0:w.heap.size<w1.heap.size+1:=(by omega);have hp1_1_1:w.heap.size+1<w1.heap.size+1:=(by omega);have hp1_1_2:w.heap.size+1+1<w1.heap.size+1:=(by omega);have hp1_2_0:w.heap.size<w1.heap.size+1+1:=(by omega);have hp1_2_1:w.heap.size+1<w1.heap.size+1+1:=(by omega);have hp1_2_2:w.heap.size+1+1<w1.heap.size+1+1:=(by omega);have hz1_0:w.heap.size<w1.heap.size:=(by omega);have hz1_1:w.heap.size+1<w1.heap.size:=(by omega);have hz1_2:w.heap.size+1+1<w1.heap.size:=(by omega))
  go_wp2
  go_ret
  exact⟨rfl,by exact gcc HG1 gzz⟩
 ·have q0:¬(6:Int)<(n0:Int):=by omega
  by_cases h1:6<n1
  ·have q1:(6:Int)<(n1:Int):=by omega
   go_wp2_with fail
   (refine rtt (HLv.out _) fun w1 hsz1 hc1 hf1 HG1=>?_;(try simp at hsz1);have hp1_1_0:w.heap.size<w1.heap.size+1:=(by omega);have hp1_1_1:w.heap.size+1<w1.heap.size+1:=(by omega);have hp1_1_2:w.heap.size+1+1<w1.heap.size+1:=(by omega);have hp1_2_0:w.heap.size<w1.heap.size+1+1:=(by omega);have hp1_2_1:w.heap.size+1<w1.heap.size+1+1:=(by omega);have hp1_2_2:w.heap.size+1+1<w1.heap.size+1+1:=(by omega);have hz1_0:w.heap.size<w1.heap.size:=(by omega);have hz1_1:w.heap.size+1<w1.heap.size:=(by omega);have hz1_2:w.heap.size+1+1<w1.heap.size:=(by omega))
   go_wp2
   go_ret
   exact⟨rfl,by exact gcc HG1 gzz⟩
  ·have q1:¬(6:Int)<(n1:Int):=by omega
   go_wp2_with fail
   refine(HM.out _ (by exact gzz)).mono ?_
   rintro e w1 ⟨a,b,c,rfl,hms,hg1⟩
   have hsz1:=hg1.size
   (try simp at hsz1)
   obtain ⟨ap,cp,rfl⟩:=hms.1.at
   obtain ⟨at_,ct,rfl⟩:=hms.2.1.at
   obtain ⟨as_,cs,rfl⟩:=hms.2.2.at
   have HZ1:=Lh ((show VB (((w.alloc (.cells #[.int .u8 (nx:Int),.int .u8 (ny:Int),bv,.int .i8 m0,.int .i8 m1,.int .i8 m2,.int .i8 m3,.int .u8 (dn:Int),.int .u8 (fi:Int)] 26)).alloc (.cells #[.slice p0 n0 c0,.slice p1 n1 c1] 77)).alloc (.cells #[.int .i64 k0,.int .u32 (e0:Int),.int .i64 k1,.int .u32 (e1:Int),.int .i64 k2,.int .u32 (e2:Int)] 81)) (w.heap.size+1) [.slice p0 n0 c0,.slice p1 n1 c1]from by exact vbb).gr hg1 (by first|omega|(simp;done)|(simp;omega)))
   have HQ1:=Lh ((show VB (((w.alloc (.cells #[.int .u8 (nx:Int),.int .u8 (ny:Int),bv,.int .i8 m0,.int .i8 m1,.int .i8 m2,.int .i8 m3,.int .u8 (dn:Int),.int .u8 (fi:Int)] 26)).alloc (.cells #[.slice p0 n0 c0,.slice p1 n1 c1] 77)).alloc (.cells #[.int .i64 k0,.int .u32 (e0:Int),.int .i64 k1,.int .u32 (e1:Int),.int .i64 k2,.int .u32 (e2:Int)] 81)) (w.heap.size+1+1) [.int .i64 k0,.int .u32 (e0:Int),.int .i64 k1,.int .u32 (e1:Int),.int .i64 k2,.int .u32 (e2:Int)]from by exact vbb).gr hg1 (by first|omega|(simp;done)|(simp;omega)))
   have HG1:=Lh (show Gr w.heap.size w w1 from(show Gr w.heap.size w (((w.alloc (.cells #[.int .u8 (nx:Int),.int .u8 (ny:Int),bv,.int .i8 m0,.int .i8 m1,.int .i8 m2,.int .i8 m3,.int .u8 (dn:Int),.int .u8 (fi:Int)] 26)).alloc (.cells #[.slice p0 n0 c0,.slice p1 n1 c1] 77)).alloc (.cells #[.int .i64 k0,.int .u32 (e0:Int),.int .i64 k1,.int .u32 (e1:Int),.int .i64 k2,.int .u32 (e2:Int)] 81))from by exact gzz).trans (hg1.mono (by first|omega|(simp;done)|(simp;omega))))
   have HMS:=Lh (show MS w1 0 _ _ _ m from⟨hms.1.mono (Nat.zero_le _),hms.2.1.mono (Nat.zero_le _),hms.2.2.mono (Nat.zero_le _)⟩)
   have h21:w.heap.size+1+1<w1.heap.size:=by omega
   clear hms hg1 hsz1 HM
   go_upto_region 4 with fail
   have HS4:=Lh (show MS (w1.alloc (.cells #[.slice ap m.pts.length cp,.slice at_ m.tris.length ct,.slice as_ m.sides.length cs] 35)) 0 _ _ _ m from HMS.out.gr (by exact gzz))
   have HB4:=Lh (show VB (w1.alloc (.cells #[.slice ap m.pts.length cp,.slice at_ m.tris.length ct,.slice as_ m.sides.length cs] 35)) w1.heap.size [.slice ap m.pts.length cp,.slice at_ m.tris.length ct,.slice as_ m.sides.length cs]from by exact vbb)
   have HZ4:=Lh (show VB (w1.alloc (.cells #[.slice ap m.pts.length cp,.slice at_ m.tris.length ct,.slice as_ m.sides.length cs] 35)) _ _ from HZ1.out.gr (show Gr w1.heap.size w1 (w1.alloc (.cells #[.slice ap m.pts.length cp,.slice at_ m.tris.length ct,.slice as_ m.sides.length cs] 35))from by exact gzz) (by omega))
   have HQ4:=Lh (show VB (w1.alloc (.cells #[.slice ap m.pts.length cp,.slice at_ m.tris.length ct,.slice as_ m.sides.length cs] 35)) _ _ from HQ1.out.gr (show Gr w1.heap.size w1 (w1.alloc (.cells #[.slice ap m.pts.length cp,.slice at_ m.tris.length ct,.slice as_ m.sides.length cs] 35))from by exact gzz) (by omega))
   have HG4:=Lh (show Gr w.heap.size w (w1.alloc (.cells #[.slice ap m.pts.length cp,.slice at_ m.tris.length ct,.slice as_ m.sides.length cs] 35))from by exact gcc HG1 gzz)
   have hz4:(w1.alloc (.cells #[.slice ap m.pts.length cp,.slice at_ m.tris.length ct,.slice as_ m.sides.length cs] 35)).heap.size=w1.heap.size+1:=by simp
   generalize (w1.alloc (.cells #[.slice ap m.pts.length cp,.slice at_ m.tris.length ct,.slice as_ m.sides.length cs] 35))=w4 at *
   generalize hmb0:w1.heap.size=mb at *
   have hmb:mb<w4.heap.size:=by omega
   have h24:w.heap.size+1+1<w4.heap.size:=by omega
   have hmw:w.heap.size+1+1<mb:=by omega
   clear hz4 h21 hmb0 HZ1 HQ1 HG1 HMS
   generalize hbq:w.heap.size+1+1=bq at *
   generalize hbz:w.heap.size+1=bz at *
   have hq4:bq<w4.heap.size:=by omega
   have hz4:bz<w4.heap.size:=by omega
   have h04:w.heap.size<w4.heap.size:=by omega
   clear hbq hbz h24
   obtain ⟨z0,z1⟩:_∧_:=⟨HZ4.out.c 0 _ rfl,HZ4.out.c 1 _ rfl⟩
   go_cut [8] (fun s8 wx=> ∃(gg:Nat) (a0 a1:Option Addr) (l0 l1:Nat),s8= .pointer (some ⟨gg,0,none⟩)∧VB wx gg [.slice a0 gx.length l0,.slice a1 gy.length l1]∧PL wx 0 (.slice a0 gx.length l0) gx∧PL wx 0 (.slice a1 gy.length l1) gy∧w4.heap.size≤gg∧Gr w4.heap.size w4 wx)
   case first=>
    go_region_held3 (fun w'=>w'.cell? ⟨bz,0,none⟩=some (.slice p0 n0 c0)∧w'.cell? ⟨bz,1,none⟩=some (.slice p1 n1 c1))
     (first|(simp [go_sem, *];done))
     (first|(go_at_call_of 21 (Value.slice p0 n0 c0);refine(HD0.out (by omega) _ (by exact gcc HG4 gzz)).mono ?_;rintro e w5 ⟨v5,rfl,hS5,hg5⟩;(try (with_reducible replace hg5:=Gr.of_drew hg5));obtain ⟨a5,k5,rfl⟩:=hS5.at;have hsz5:=hg5.size;(try simp at hsz5);(try (have hq5_0:w4.heap.size<w5.heap.size:=(by omega)));(try (have hq5_1:w5.heap.size<w5.heap.size:=(by omega)));have hy5_0:bz<w5.heap.size:=(by omega);have hp5_1_0:bz<w5.heap.size+1:=(by omega);have hp5_2_0:bz<w5.heap.size+1+1:=(by omega);obtain ⟨hc5,hf5⟩:=hg5.cells;have HG5:=Lh hg5;have HS5:=Lh hS5;clear hg5 hS5)|(go_at_call_of 21 (Value.slice p1 n1 c1);refine(HD1.out (by omega) _ (by exact gcc HG5 (gcc HG4 gzz))).mono ?_;rintro e w6 ⟨v6,rfl,hS6,hg6⟩;(try (with_reducible replace hg6:=Gr.of_drew hg6));obtain ⟨a6,k6,rfl⟩:=hS6.at;have hsz6:=hg6.size;(try simp at hsz6);(try (have hq6_0:w4.heap.size<w6.heap.size:=(by omega)));(try (have hq6_1:w5.heap.size<w6.heap.size:=(by omega)));have hy6_0:bz<w6.heap.size:=(by omega);have hp6_1_0:bz<w6.heap.size+1:=(by omega);have hp6_2_0:bz<w6.heap.size+1+1:=(by omega);obtain ⟨hc6,hf6⟩:=hg6.cells;have HG6:=Lh hg6;have HS6:=Lh hS6;clear hg6 hS6))
    all_goals (go_wp2_with fail;go_meet;exact⟨_,_,_,_,_,rfl,by(with_reducible (repeat' (first|(refine VB.new' ?_;exact(by first|omega|(simp;done)|(simp;omega)))|apply VB.put2|refine VB.drew ?_|refine VB.far ?_ ?_ _|refine VB.alloc ?_ _|refine VB.gr ?_ HG6.out ?_|refine VB.gr ?_ HG5.out ?_|omega|(simp;done)|(simp;omega)))),by(first|(refine SL.gr (HS5.out.mono (Nat.zero_le _)) ?_;(with_reducible (repeat' (first|exact Gr.refl _ _|refine Gr.drew ?_|refine Gr.setCell ?_ ?_ _|refine Gr.alloc ?_ ?_ _|refine Gr.trans ?_ (Gr.mono HG6.out ?_)|omega|(simp;done)|(simp;omega))));done)|(refine SL.mono (SL.far (SL.far (SL.gr HS5.out ?_) ?_ _) ?_ _) (Nat.zero_le _);all_goals (with_reducible (repeat' (first|exact Gr.refl _ _|refine Gr.drew ?_|refine Gr.setCell ?_ ?_ _|refine Gr.alloc ?_ ?_ _|refine Gr.trans ?_ (Gr.mono HG6.out ?_)|omega|(simp;done)|(simp;omega))));done)|fail),by(first|(refine SL.gr (HS6.out.mono (Nat.zero_le _)) ?_;(with_reducible (repeat' (first|exact Gr.refl _ _|refine Gr.drew ?_|refine Gr.setCell ?_ ?_ _|refine Gr.alloc ?_ ?_ _|omega|(simp;done)|(simp;omega))));done)|(refine SL.mono (SL.far (SL.far (SL.gr HS6.out ?_) ?_ _) ?_ _) (Nat.zero_le _);all_goals (with_reducible (repeat' (first|exact Gr.refl _ _|refine Gr.drew ?_|refine Gr.setCell ?_ ?_ _|refine Gr.alloc ?_ ?_ _|omega|(simp;done)|(simp;omega))));done)|fail),by omega,by(with_reducible (repeat' (first|exact Gr.refl _ _|refine Gr.drew ?_|refine Gr.setCell ?_ ?_ _|refine Gr.alloc ?_ ?_ _|refine Gr.trans ?_ (Gr.mono HG6.out ?_)|refine Gr.trans ?_ (Gr.mono HG5.out ?_)|omega|(simp;done)|(simp;omega))))⟩)
   case rest=>
    obtain ⟨wx,hw9⟩:∃q,q=wc:=⟨_,rfl⟩
    subst hw9
    obtain ⟨gb,a0,a1,l0,l1,rfl,hVg,hx0,hy0,hgb,hgx⟩:=hcut
    have HVx:=Lh hVg
    have HPX:=Lh hx0
    have HPY:=Lh hy0
    have HSx:=Lh (HS4.out.gr hgx)
    have HBx:=Lh (HB4.out.gr hgx hmb)
    have HQx:=Lh (HQ4.out.gr hgx hq4)
    have HGx:=Lh (HG4.out.trans (hgx.mono (by omega)))
    have hbx:=HVx.out.lt
    have hmx:=HBx.out.lt
    have hqx:=HQx.out.lt
    have h0x:w.heap.size<wx.heap.size:=by have:=hgx.size;omega
    clear HS4 HB4 HQ4 HG4 HZ4 z0 z1 hVg hx0 hy0 hgx HD0 HD1 hgb hmb h04 hmw hq4 hz4
    obtain ⟨b0,b1,b2⟩:_∧_∧_:=⟨HBx.out.c 0 _ rfl,HBx.out.c 1 _ rfl,HBx.out.c 2 _ rfl⟩
    obtain ⟨g0,g1⟩:_∧_:=⟨HVx.out.c 0 _ rfl,HVx.out.c 1 _ rfl⟩
    go_wp2_with fail
    refine(gf_Interp G.out HSD.out gx gy (.slice a0 gx.length l0) (.slice a1 gy.length l1) _ _ _ _ HSx.out HPX.out HPY.out (fun A B vx vy W hA hB h1 h2=>it_Flow4 gx gy vx vy A B W h1 h2 HDT.out.1 HDT.out.2.1 (Nat.le_trans HDT.out.2.2.1 (by omega)) (Nat.le_trans HDT.out.2.2.2 (by omega)) hA hB)).mono ?_
    rintro e w5 ⟨f0,f1,f2,f3,rfl,hM5,hV5,hg5⟩
    have hsz5:=hg5.size
    (try simp at hsz5)
    obtain ⟨af0,kf0,rfl⟩:=hM5.1.at
    obtain ⟨af1,kf1,rfl⟩:=hM5.2.1.at
    obtain ⟨af2,kf2,rfl⟩:=hM5.2.2.at
    obtain ⟨V,hV⟩:∃q,itpV m gx gy=q:=⟨_,rfl⟩
    rw [show(esM m.tris).map (eFlow m gx gy)=V from hV]at hV5
    obtain ⟨af3,kf3,rfl⟩:=hV5.at
    have HV9:=Lh hV
    have HVL:=Lh (show V.length=(esM m.tris).length from hV ▸ itp_len m gx gy)
    have HVB:=Lh (show ∀q∈V,hw q≤10000000000 from hV ▸ itp_hw G.out (fun A C hA hC=>flow4_hw HDT.out.1 HDT.out.2.1 (Nat.le_trans HDT.out.2.2.1 (by omega)) (Nat.le_trans HDT.out.2.2.2 (by omega)) A C hA hC))
    clear hV
    have HF6:=Lh (show FS (w5.alloc (.cells #[.slice af0 m.pts.length kf0,.slice af1 m.tris.length kf1,.slice af2 m.sides.length kf2,.slice af3 V.length kf3] 39)) 0 _ _ _ _ m V from FS.gr ⟨⟨hM5.1.mono (Nat.zero_le _),hM5.2.1.mono (Nat.zero_le _),hM5.2.2.mono (Nat.zero_le _)⟩,hV5.mono (Nat.zero_le _)⟩ (by exact gzz))
    have HG5:=Lh hg5
    clear hM5 hV5 hg5 b0 b1 b2 g0 g1
    go_wp2_with fail
    refine(gf_NetB G.out V HVL.out (Nat.le_refl _) HVB.out _ _ _ _ _ HF6.out).mono ?_
    rintro e w7 ⟨vn,rfl,hn7,hg7⟩
    have hsz7:=hg7.size
    (try simp at hsz7)
    have HG7:=Lh (show Gr wx.heap.size wx w7 from(show Gr wx.heap.size wx (w5.alloc (.cells #[.slice af0 m.pts.length kf0,.slice af1 m.tris.length kf1,.slice af2 m.sides.length kf2,.slice af3 V.length kf3] 39))from by exact gcc HG5 gzz).trans (hg7.mono (by first|omega|(simp;done)|(simp;omega))))
    clear HF6 HG5 hg7 HVB
    obtain ⟨ns,hns⟩:∃q,(m.tris.map fun t=>netR V (partsT (esM m.tris) t))=q:=⟨_,rfl⟩
    rw [hns]at hn7
    have hnl:ns.length=m.tris.length:=by rw [←hns,List.length_map]
    have HNS:=Lh hns
    clear hns
    obtain ⟨t0,ht0⟩:=List.exists_mem_of_ne_nil _ G.out.A.one
    have hT0:0<m.tris.length:=List.length_pos_of_mem ht0
    have hTn:=G.out.nt
    clear ht0 t0
    obtain ⟨gn,cn,en,_⟩:=hn7.block (by intro e9;rw [e9]at hnl;simp at hnl;omega)
    rw [hnl]at en
    subst en
    have HN7:=Lh (show SR qC 5 59 w7 0 _ ns from hn7.mono (Nat.zero_le _))
    have hgn:=(SR.own_lt hn7 (g:=gn) rfl).2
    have HNL:=Lh hnl
    clear hn7 hnl hsz5 hsz7
    have hx7:=HG7.out.size
    have HVz:=Lh (HVx.out.gr HG7.out hbx)
    have HPA:=Lh (HPX.out.gr HG7.out)
    have HPB:=Lh (HPY.out.gr HG7.out)
    have HSz:=Lh (HSx.out.gr HG7.out)
    have HBz:=Lh (HBx.out.gr HG7.out hmx)
    have HQz:=Lh (HQx.out.gr HG7.out hqx)
    have HGz:=Lh (HGx.out.trans (HG7.out.mono (by omega)))
    have hbz:=HVz.out.lt
    have hmz:=HBz.out.lt
    have hqz:=HQz.out.lt
    have h0z:w.heap.size<w7.heap.size:=by omega
    clear HVx HPX HPY HSx HBx HQx HGx HG7 hbx hmx hqx h0x hx7
    have c1:=HBz.out.c 1 _ rfl
    have y0:=HVz.out.c 0 _ rfl
    have y1:=HVz.out.c 1 _ rfl
    go_upto_region 9 with fail
    clear c1
    obtain ⟨dO,tD,tX,tY⟩:=div_ok HDT.out.1 HDT.out.2.1 HDT.out.2.2.1 HDT.out.2.2.2
    have K1:=Lh (fun v W h=>po_Dx gx v W h (d4_ok HDT.out.1) (by have:=HDT.out.2.2.1;omega))
    have K2:=Lh (fun v W h=>po_Dy gy v W h (d4_ok HDT.out.2.1) (by have:=HDT.out.2.2.2;omega))
    have K3:=Lh (fun v u W h1 h2=>po_Add (dxL gx) (dyL gy) v u W h1 h2 (fun t ht=>by have:=dxL_deg HDT.out.1 t ht;show t.i+t.j≤12;omega) (fun t ht=>by have:=dyL_deg HDT.out.2.1 t ht;show t.i+t.j≤12;omega) (by omega))
    obtain ⟨SM,hSM⟩:∃x,divL gx gy=x:=⟨_,rfl⟩
    have HSM:=Lh hSM
    rw [hSM]at dO tD
    have HTR:=Lh (fun v a b c W h ha hb hc=>it_Tri3 SM v a b c W h dO (by omega) ha hb hc)
    obtain ⟨DXP,hDXP⟩:∃x,dxL gx=x:=⟨_,rfl⟩
    obtain ⟨DYP,hDYP⟩:∃x,dyL gy=x:=⟨_,rfl⟩
    have J1:=Lh (hDXP ▸ K1.out:∀v W,PL W 0 v gx→Calls Tryz.prog 14 #[v] W (RetP W DXP))
    have J2:=Lh (hDYP ▸ K2.out:∀v W,PL W 0 v gy→Calls Tryz.prog 15 #[v] W (RetP W DYP))
    have J3:=Lh (show ∀v u W,PL W 0 v DXP→PL W 0 u DYP→Calls Tryz.prog 13 #[v,u] W (RetP W SM)from hSM ▸ hDXP ▸ hDYP ▸ K3.out)
    clear K1 K2 K3 hSM hDXP hDYP dO tD tX tY
    refine wp_region_held_drew (S:=(fun w'=>w'.cell? ⟨gb,0,none⟩=some (.slice a0 gx.length l0)∧w'.cell? ⟨gb,1,none⟩=some (.slice a1 gy.length l1))) (by kernel_rfl) ?_ (fun hHeld=>?_)
    ·simp [go_sem, *]
    refine tq 0 68 (.pointer (some ⟨gb,0,none⟩)) ?_
    refine tq 1 69 (.slice a0 gx.length l0) ?_
    refine tq 3 71 (.pointer (some ⟨gb,1,none⟩)) ?_
    refine tq 4 72 (.slice a1 gy.length l1) ?_
    refine rd 2 (fun K hK=>?_)
    go_simp
    (refine rtp (J1.out _ _ (HPA.out.gr (by exact gzz))) fun w21 v21 HS21 hsz21 hc21 hf21 HG21=>?_;(try simp at hsz21);have hy21_0:gb<w21.heap.size:=(by omega);have hy21_1:mb<w21.heap.size:=(by omega);have hy21_2:bq<w21.heap.size:=(by omega);have hy21_3:gn<w21.heap.size:=(by omega);have hp21_1_0:gb<w21.heap.size+1:=(by omega);have hp21_1_1:mb<w21.heap.size+1:=(by omega);have hp21_1_2:bq<w21.heap.size+1:=(by omega);have hp21_1_3:gn<w21.heap.size+1:=(by omega);have hp21_2_0:gb<w21.heap.size+1+1:=(by omega);have hp21_2_1:mb<w21.heap.size+1+1:=(by omega);have hp21_2_2:bq<w21.heap.size+1+1:=(by omega);have hp21_2_3:gn<w21.heap.size+1+1:=(by omega))
    refine kO hK fun hQ1=>?_
    clear hK K hHeld
    refine rd 5 (fun K hK=>?_)
    go_simp
    (refine rtp (J2.out _ _ (HPB.out.gr (by exact gcc HG21 gzz))) fun w22 v22 HS22 hsz22 hc22 hf22 HG22=>?_;(try simp at hsz22);have hy22_0:gb<w22.heap.size:=(by omega);have hy22_1:mb<w22.heap.size:=(by omega);have hy22_2:bq<w22.heap.size:=(by omega);have hy22_3:gn<w22.heap.size:=(by omega);have hp22_1_0:gb<w22.heap.size+1:=(by omega);have hp22_1_1:mb<w22.heap.size+1:=(by omega);have hp22_1_2:bq<w22.heap.size+1:=(by omega);have hp22_1_3:gn<w22.heap.size+1:=(by omega);have hp22_2_0:gb<w22.heap.size+1+1:=(by omega);have hp22_2_1:mb<w22.heap.size+1+1:=(by omega);have hp22_2_2:bq<w22.heap.size+1+1:=(by omega);have hp22_2_3:gn<w22.heap.size+1+1:=(by omega))
    refine kO hK fun hQ2=>?_
    clear hK K hQ1
    refine rd 6 (fun K hK=>?_)
    go_simp
    (refine rtp (J3.out _ _ _ ((HS21.out.mono (Nat.zero_le _)).gr HG22.out) (HS22.out.mono (Nat.zero_le _))) fun w23 v23 HS23 hsz23 hc23 hf23 HG23=>?_;(try simp at hsz23);have hy23_0:gb<w23.heap.size:=(by omega);have hy23_1:mb<w23.heap.size:=(by omega);have hy23_2:bq<w23.heap.size:=(by omega);have hy23_3:gn<w23.heap.size:=(by omega);have hp23_1_0:gb<w23.heap.size+1:=(by omega);have hp23_1_1:mb<w23.heap.size+1:=(by omega);have hp23_1_2:bq<w23.heap.size+1:=(by omega);have hp23_1_3:gn<w23.heap.size+1:=(by omega);have hp23_2_0:gb<w23.heap.size+1+1:=(by omega);have hp23_2_1:mb<w23.heap.size+1+1:=(by omega);have hp23_2_2:bq<w23.heap.size+1+1:=(by omega);have hp23_2_3:gn<w23.heap.size+1+1:=(by omega))
    refine kO hK fun hQ3=>?_
    clear hK K hQ2
    obtain ⟨a23,c23,rfl⟩:=HS23.out.at
    refine tq 7 13 (.slice a23 SM.length c23) ?_
    refine wpAnyH_done (by kernel_rfl) ?_ _
    have HGV:=Lh (show Gr w7.heap.size w7 w23 from by exact gcc HG23 (gcc HG22 (gcc HG21 gzz)))
    have HPD:=Lh (HS23.out.mono (Nat.zero_le _))
    have HSd:=Lh (HSz.out.gr HGV.out)
    have HBd:=Lh (HBz.out.gr HGV.out hmz)
    have HQd:=Lh (HQz.out.gr HGV.out hqz)
    have HGd:=Lh (HGz.out.trans (HGV.out.mono (by omega)))
    have HNd:=Lh (HN7.out.gr HGV.out)
    have hx7:=HGV.out.size
    have hmd:=HBd.out.lt
    have hqd:=HQd.out.lt
    have hgnd:gn<w23.heap.size:=by omega
    have h0d:w.heap.size<w23.heap.size:=by omega
    clear y0 y1 hQ3 HVz HPA HPB HSz HBz HQz HGz HN7 HGV hbz hmz hqz hgn h0z hx7 J1 J2 J3 HG21 hc21 hf21 HS21 HG22 hc22 hf22 HS22 HG23 hc23 hf23 HS23
    go_upto_region 10 with fail
    have HW0:=hw_qQ k0 e0 HQK.out.1 HQK.out.2.2.2.1
    have HW1:=hw_qQ k1 e1 HQK.out.2.1 HQK.out.2.2.2.2.1
    have HW2:=hw_qQ k2 e2 HQK.out.2.2.1 HQK.out.2.2.2.2.2
    have A0:=Lh (fun W=>q_Of k0 e0 W HQK.out.1.1 HQK.out.1.2 HQK.out.2.2.2.1)
    have A1:=Lh (fun W=>q_Of k1 e1 W HQK.out.2.1.1 HQK.out.2.1.2 HQK.out.2.2.2.2.1)
    have A2:=Lh (fun W=>q_Of k2 e2 W HQK.out.2.2.1.1 HQK.out.2.2.1.2 HQK.out.2.2.2.2.2)
    obtain ⟨r0,hr0⟩:∃x,qQ k0 e0=x:=⟨_,rfl⟩
    obtain ⟨r1,hr1⟩:∃x,qQ k1 e1=x:=⟨_,rfl⟩
    obtain ⟨r2,hr2⟩:∃x,qQ k2 e2=x:=⟨_,rfl⟩
    rw [hr0]at A0 HW0
    rw [hr1]at A1 HW1
    rw [hr2]at A2 HW2
    clear hr0 hr1 hr2
    have N0:=Lh (fun W=>po_Const r0 W (by omega))
    have N1:=Lh (fun W=>po_Const r1 W (by omega))
    have X0:=Lh po_X
    have Y0:=Lh po_Y
    have tx0:=tot_xL
    have ty0:=tot_yL
    have tn0:=tot_constT r0
    have tn1:=tot_constT r1
    have tsx:=tot_scl D1.x r2
    have tsy:=tot_scl D1.y r2
    have S0:=Lh (fun v W h=>po_Scale r2 xL v W h D1.x.ok (Nat.le_trans (Nat.mul_le_mul tx0 (show hw r2+2≤6 by omega)) (by decide)))
    have S1:=Lh (fun v W h=>po_Scale r2 yL v W h D1.y.ok (Nat.le_trans (Nat.mul_le_mul ty0 (show hw r2+2≤6 by omega)) (by decide)))
    have B0:=Lh (fun v u W h1 h2=>po_Add (constT r0) (scaleL r2 xL) v u W h1 h2 (D1.const r0).ok (D1.x.scaleL r2).ok (by omega))
    have B1:=Lh (fun v u W h1 h2=>po_Add (constT r1) (scaleL r2 yL) v u W h1 h2 (D1.const r1).ok (D1.y.scaleL r2).ok (by omega))
    have HOT:=Lh (own_tot r0 r1 r2 HW0 HW1 HW2)
    have HOD:=Lh (own_d1 r0 r1 r2)
    have HOF:=Lh (fun (A B:Pt) hA hB=>own_hw r0 r1 r2 A B HW0 HW1 HW2 hA hB)
    have HOS:=Lh (fun t ht=>own_same G.out r0 r1 r2 t ht)
    obtain ⟨OX,hOX⟩:∃x,ownX r0 r2=x:=⟨_,rfl⟩
    obtain ⟨OY,hOY⟩:∃x,ownY r1 r2=x:=⟨_,rfl⟩
    rw [hOX,hOY]at HOT HOD HOS
    simp only [hOX,hOY]at HOF
    obtain ⟨SX,hSX⟩:∃x,scaleL r2 xL=x:=⟨_,rfl⟩
    obtain ⟨SY,hSY⟩:∃x,scaleL r2 yL=x:=⟨_,rfl⟩
    obtain ⟨CX,hCX⟩:∃x,constT r0=x:=⟨_,rfl⟩
    obtain ⟨CY,hCY⟩:∃x,constT r1=x:=⟨_,rfl⟩
    replace S0:=Lh (show ∀v W,PL W 0 v xL→Calls Tryz.prog 17 #[v,fracV r2] W (RetP W SX)from hSX ▸ S0.out)
    replace S1:=Lh (show ∀v W,PL W 0 v yL→Calls Tryz.prog 17 #[v,fracV r2] W (RetP W SY)from hSY ▸ S1.out)
    replace B0:=Lh (show ∀v u W,PL W 0 v CX→PL W 0 u SX→Calls Tryz.prog 13 #[v,u] W (RetP W OX)from hOX ▸ hCX ▸ hSX ▸ B0.out)
    replace B1:=Lh (show ∀v u W,PL W 0 v CY→PL W 0 u SY→Calls Tryz.prog 13 #[v,u] W (RetP W OY)from hOY ▸ hCY ▸ hSY ▸ B1.out)
    rw [hCX]at N0
    rw [hCY]at N1
    clear hOX hOY hSX hSY hCX hCY tx0 ty0 tn0 tn1 tsx tsy HW0 HW1 HW2 HQK
    go_cut [14] (fun s14 wx=> ∃(gw:Nat) (b0 b1:Option Addr) (t0 t1:Nat),s14= .pointer (some ⟨gw,0,none⟩)∧VB wx gw [.slice b0 OX.length t0,.slice b1 OY.length t1]∧PL wx 0 (.slice b0 OX.length t0) OX∧PL wx 0 (.slice b1 OY.length t1) OY∧w23.heap.size≤gw∧Gr w23.heap.size w23 wx)
    case first=>
     refine own_reg A0 A1 A2 N0 N1 X0 Y0 S0 S1 B0 B1 HQd.out (fun gw b0 b1 t0 t1 _ _ _ _ _ _ _ _ _ _ _ _ _ _ _ _ _ _ _ _ _ wx hV h1 h2 hg hgr=>?_)
     go_wp2_with fail
     go_meet
     exact⟨gw,b0,b1,t0,t1,rfl,hV,h1,h2,hg,hgr⟩
    case rest=>
     obtain ⟨wo,hw9⟩:∃q,q=wc:=⟨_,rfl⟩
     subst hw9
     obtain ⟨gw,b0,b1,t0,t1,rfl,hVw,hox,hoy,hgw,hgo⟩:=hcut
     have HVo:=Lh hVw
     have HPU:=Lh hox
     have HPV:=Lh hoy
     have HSo:=Lh (HSd.out.gr hgo)
     have HBo:=Lh (HBd.out.gr hgo hmd)
     have HNo:=Lh (HNd.out.gr hgo)
     have HPo:=Lh (HPD.out.gr hgo)
     have HGo:=Lh (HGd.out.trans (hgo.mono (by omega)))
     have hgs:=hgo.size
     have hwo:=HVo.out.lt
     have hmo:=HBo.out.lt
     have hno:gn<wo.heap.size:=by omega
     have h0o:w.heap.size<wo.heap.size:=by omega
     clear HSd HBd HQd HNd HPD HGd hmd hqd hgnd h0d A0 A1 A2 N0 N1 X0 Y0 S0 S1 B0 B1 hVw hox hoy hgo hgw hgs
     obtain ⟨d0,d1,d2⟩:_∧_∧_:=⟨HBo.out.c 0 _ rfl,HBo.out.c 1 _ rfl,HBo.out.c 2 _ rfl⟩
     obtain ⟨g0,g1⟩:_∧_:=⟨HVo.out.c 0 _ rfl,HVo.out.c 1 _ rfl⟩
     go_wp2_with fail
     refine(gf_Interp G.out HSD.out OX OY (.slice b0 OX.length t0) (.slice b1 OY.length t1) _ _ _ _ HSo.out HPU.out HPV.out (fun A B vx vy W hA hB h1 h2=>it_Flow4 OX OY vx vy A B W h1 h2 (D1.d4 HOD.out.1) (D1.d4 HOD.out.2) (Nat.le_trans HOT.out.1 (by omega)) (Nat.le_trans HOT.out.2 (by omega)) hA hB)).mono ?_
     rintro e w11 ⟨f0,f1,f2,f3,rfl,hM5,hV5,hg5⟩
     obtain ⟨au0,ku0,rfl⟩:=hM5.1.at
     obtain ⟨au1,ku1,rfl⟩:=hM5.2.1.at
     obtain ⟨au2,ku2,rfl⟩:=hM5.2.2.at
     obtain ⟨U,hU⟩:∃q,itpV m OX OY=q:=⟨_,rfl⟩
     rw [show(esM m.tris).map (eFlow m OX OY)=U from hU]at hV5
     obtain ⟨au3,ku3,rfl⟩:=hV5.at
     have HUL:=Lh (show U.length=(esM m.tris).length from hU ▸ itp_len m OX OY)
     have HUB:=Lh (show ∀q∈U,hw q≤200 from hU ▸ itp_hw G.out HOF.out)
     rw [hU]at HOS
     clear hU HOF
     go_wp2_with fail
     clear d0 d1 d2 g0 g1
     have HF:=Lh (show FS (w11.alloc (.cells #[.slice au0 m.pts.length ku0,.slice au1 m.tris.length ku1,.slice au2 m.sides.length ku2,.slice au3 U.length ku3] 39)) 0 _ _ _ _ m U from FS.gr ⟨⟨hM5.1.mono (Nat.zero_le _),hM5.2.1.mono (Nat.zero_le _),hM5.2.2.mono (Nat.zero_le _)⟩,hV5.mono (Nat.zero_le _)⟩ (by exact gzz))
     have HB:=Lh (show VB (w11.alloc (.cells #[.slice au0 m.pts.length ku0,.slice au1 m.tris.length ku1,.slice au2 m.sides.length ku2,.slice au3 U.length ku3] 39)) w11.heap.size [.slice au0 m.pts.length ku0,.slice au1 m.tris.length ku1,.slice au2 m.sides.length ku2,.slice au3 U.length ku3]from by exact vbb)
     have hs5:=hg5.size
     have HG5:=Lh hg5
     have HG12:=Lh (show Gr wo.heap.size wo (w11.alloc (.cells #[.slice au0 m.pts.length ku0,.slice au1 m.tris.length ku1,.slice au2 m.sides.length ku2,.slice au3 U.length ku3] 39))from by exact gcc HG5 gzz)
     have hz12:(w11.alloc (.cells #[.slice au0 m.pts.length ku0,.slice au1 m.tris.length ku1,.slice au2 m.sides.length ku2,.slice au3 U.length ku3] 39)).heap.size=w11.heap.size+1:=by simp
     clear hM5 hV5 hg5 HG5
     generalize (w11.alloc (.cells #[.slice au0 m.pts.length ku0,.slice au1 m.tris.length ku1,.slice au2 m.sides.length ku2,.slice au3 U.length ku3] 39))=w12 at *
     generalize w11.heap.size=fb at *
     have hfb:fb<w12.heap.size:=by omega
     have hx12:=HG12.out.size
     clear hz12 hs5
     have HSp:=Lh (HSo.out.gr HG12.out)
     have HMp:=Lh (HBo.out.gr HG12.out hmo)
     have HNp:=Lh (HNo.out.gr HG12.out)
     have HPp:=Lh (HPo.out.gr HG12.out)
     have HVp:=Lh (HVo.out.gr HG12.out hwo)
     have HXp:=Lh (HPU.out.gr HG12.out)
     have HYp:=Lh (HPV.out.gr HG12.out)
     have HGp:=Lh (HGo.out.trans (HG12.out.mono (by omega)))
     have hwp:gw<w12.heap.size:=by omega
     have hmp:mb<w12.heap.size:=by omega
     have hnp:gn<w12.heap.size:=by omega
     have h0p:w.heap.size<w12.heap.size:=by omega
     clear HSo HBo HNo HPo HVo HPU HPV HGo HG12 hwo hmo hno h0o hx12
     go_loopw [17] (fun s wr=> ∃i:Nat,i≤m.tris.length∧s= .int .i64 i∧Hid (Gr w12.heap.size w12 wr)) (fun s _=>m.tris.length - (intOf s).toNat)
     case atStart=>exact⟨0,Nat.zero_le _,rfl,Lh (Gr.refl _ _)⟩
     case round=>
      obtain ⟨j,hj,rfl,HG⟩:=hrel
      have hszr:=HG.out.size
      by_cases hlt:j<m.tris.length
      ·have q2:(j:Int)<(m.tris.length:Int):=by omega
       have hj1:IntKind.i64.wrap ((j:Int)+1)=(j:Int)+1:=wrap64_id (by omega) (by omega)
       obtain ⟨t,ht⟩:∃t,m.tris[j]? =some t:=⟨_,List.getElem?_eq_getElem hlt⟩
       have htm:t∈m.tris:=List.mem_of_getElem? ht
       have HCO:=Lh (fun W (hW:Gr w12.heap.size w12 W)=>show Calls Tryz.prog 8 #[.agg #[.slice au0 m.pts.length ku0,.slice au1 m.tris.length ku1,.slice au2 m.sides.length ku2,.slice au3 U.length ku3],.int .i64 (j:Int)] W (fun e w'=> ∃u v:Value,e= .returned (.tuple #[.agg #[u,v],.int .i64 0])∧PL w' W.heap.size u (fldX m U t)∧PL w' W.heap.size v (fldY m U t)∧Gr W.heap.size W w')from gf_OnB G.out j t ht U HUL.out (show 200≤400000000 by omega) HUB.out _ rfl _ _ _ _ W (HF.out.gr hW) _ rfl)
       have HCC:=Lh (gf_Corners G.out j _ ht _ _ _ wr (HSp.out.gr HG.out))
       have hnet:=itp_net G.out HDT.out.1 HDT.out.2.1 t htm
       rw [HV9.out,show addL (dxL gx) (dyL gy)=SM from HSM.out]at hnet
       obtain ⟨P,hP⟩:∃x,corP m t 0=x:=⟨_,rfl⟩
       obtain ⟨Q,hQ⟩:∃x,corP m t 1=x:=⟨_,rfl⟩
       obtain ⟨R,hR⟩:∃x,corP m t 2=x:=⟨_,rfl⟩
       have HHP:=Lh (show hp P≤4∧hp Q≤4∧hp R≤4 from⟨hP ▸ G.out.cor t htm 0,hQ ▸ G.out.cor t htm 1,hR ▸ G.out.cor t htm 2⟩)
       rw [hP,hQ,hR]at HCC hnet
       have hnj:ns[j]? =some (netR V (partsT (esM m.tris) t)):=by rw [←HNS.out,List.getElem?_map,ht];rfl
       obtain ⟨nr,hnr⟩:∃x,netR V (partsT (esM m.tris) t)=x:=⟨_,rfl⟩
       rw [hnr]at hnj hnet
       obtain ⟨hjn,hnj2⟩:=List.getElem?_eq_some_iff.1 hnj
       obtain ⟨g',c',e1,_,_,_,_,hRn⟩:=HNp.out.block (by intro e9;rw [e9]at hjn;simp at hjn)
       have e2:gn=g':=congrArg (fun v:Value=>match v with| .slice (some a) _ _=>a.block|_=>0) e1
       subst e2
       have HRN:=Lh (hRn.fQ hjn hnj2)
       have HT3:=Lh (fun v W h=>hnet ▸ HTR.out v P Q R W h HHP.out.1 HHP.out.2.1 HHP.out.2.2)
       obtain ⟨hs1,hs2⟩:=HOS.out t htm
       have hfd:=fld_d1 m U t
       have htot:=fld_totB G.out t htm U HUL.out HUB.out
       obtain ⟨FX,hFX⟩:∃x,fldX m U t=x:=⟨_,rfl⟩
       obtain ⟨FY,hFY⟩:∃x,fldY m U t=x:=⟨_,rfl⟩
       rw [hFX]at hs1 hfd htot
       rw [hFY]at hs2 hfd htot
       rw [hFX,hFY]at HCO
       have K1:=Lh (fun v u W h1 h2=>(show Calls Tryz.prog 16 #[v,u] W (Ret W (.bool true))from by have:=po_Same FX OX v u W h1 h2 hfd.1.ok HOD.out.1.ok (by omega) (by have:=HOT.out;omega);rw [hs1,decide_eq_true rfl]at this;exact this))
       have K2:=Lh (fun v u W h1 h2=>(show Calls Tryz.prog 16 #[v,u] W (Ret W (.bool true))from by have:=po_Same FY OY v u W h1 h2 hfd.2.ok HOD.out.2.ok (by omega) (by have:=HOT.out;omega);rw [hs2,decide_eq_true rfl]at this;exact this))
       clear e1 hRn hjn hnj hnj2 hP hQ hR hnr htm hnet hs1 hs2 hfd htot hFX hFY ht
       have HMr:=Lh (HMp.out.gr HG.out hmp)
       obtain ⟨d0,d1,d2⟩:_∧_∧_:=⟨HMr.out.c 0 _ rfl,HMr.out.c 1 _ rfl,HMr.out.c 2 _ rfl⟩
       go_wp2_with fail
       (refine rtt (HCC.out) fun w6 hsz6 hc6 hf6 HG6=>?_;(try simp at hsz6))
       clear d0 d1 d2
       go_upto_region 18 with fail
       have HP0:=Lh (show VB (((w6.alloc (.cells #[vA P.x,vB P.x,vC P.x,vD P.x,vE P.x,vA P.y,vB P.y,vC P.y,vD P.y,vE P.y] 64)).alloc (.cells #[vA Q.x,vB Q.x,vC Q.x,vD Q.x,vE Q.x,vA Q.y,vB Q.y,vC Q.y,vD Q.y,vE Q.y] 64)).alloc (.cells #[vA R.x,vB R.x,vC R.x,vD R.x,vE R.x,vA R.y,vB R.y,vC R.y,vD R.y,vE R.y] 64)) (w6.heap.size) [vA P.x,vB P.x,vC P.x,vD P.x,vE P.x,vA P.y,vB P.y,vC P.y,vD P.y,vE P.y]from by exact vbb)
       have HP1:=Lh (show VB (((w6.alloc (.cells #[vA P.x,vB P.x,vC P.x,vD P.x,vE P.x,vA P.y,vB P.y,vC P.y,vD P.y,vE P.y] 64)).alloc (.cells #[vA Q.x,vB Q.x,vC Q.x,vD Q.x,vE Q.x,vA Q.y,vB Q.y,vC Q.y,vD Q.y,vE Q.y] 64)).alloc (.cells #[vA R.x,vB R.x,vC R.x,vD R.x,vE R.x,vA R.y,vB R.y,vC R.y,vD R.y,vE R.y] 64)) (w6.heap.size+1) [vA Q.x,vB Q.x,vC Q.x,vD Q.x,vE Q.x,vA Q.y,vB Q.y,vC Q.y,vD Q.y,vE Q.y]from by exact vbb)
       have HP2:=Lh (show VB (((w6.alloc (.cells #[vA P.x,vB P.x,vC P.x,vD P.x,vE P.x,vA P.y,vB P.y,vC P.y,vD P.y,vE P.y] 64)).alloc (.cells #[vA Q.x,vB Q.x,vC Q.x,vD Q.x,vE Q.x,vA Q.y,vB Q.y,vC Q.y,vD Q.y,vE Q.y] 64)).alloc (.cells #[vA R.x,vB R.x,vC R.x,vD R.x,vE R.x,vA R.y,vB R.y,vC R.y,vD R.y,vE R.y] 64)) (w6.heap.size+1+1) [vA R.x,vB R.x,vC R.x,vD R.x,vE R.x,vA R.y,vB R.y,vC R.y,vD R.y,vE R.y]from by exact vbb)
       have HG7:=Lh (show Gr w12.heap.size w12 (((w6.alloc (.cells #[vA P.x,vB P.x,vC P.x,vD P.x,vE P.x,vA P.y,vB P.y,vC P.y,vD P.y,vE P.y] 64)).alloc (.cells #[vA Q.x,vB Q.x,vC Q.x,vD Q.x,vE Q.x,vA Q.y,vB Q.y,vC Q.y,vD Q.y,vE Q.y] 64)).alloc (.cells #[vA R.x,vB R.x,vC R.x,vD R.x,vE R.x,vA R.y,vB R.y,vC R.y,vD R.y,vE R.y] 64))from by exact gcc HG6 (gcc HG gzz))
       have hz7:(((w6.alloc (.cells #[vA P.x,vB P.x,vC P.x,vD P.x,vE P.x,vA P.y,vB P.y,vC P.y,vD P.y,vE P.y] 64)).alloc (.cells #[vA Q.x,vB Q.x,vC Q.x,vD Q.x,vE Q.x,vA Q.y,vB Q.y,vC Q.y,vD Q.y,vE Q.y] 64)).alloc (.cells #[vA R.x,vB R.x,vC R.x,vD R.x,vE R.x,vA R.y,vB R.y,vC R.y,vD R.y,vE R.y] 64)).heap.size=w6.heap.size+1+1+1:=by simp
       generalize (((w6.alloc (.cells #[vA P.x,vB P.x,vC P.x,vD P.x,vE P.x,vA P.y,vB P.y,vC P.y,vD P.y,vE P.y] 64)).alloc (.cells #[vA Q.x,vB Q.x,vC Q.x,vD Q.x,vE Q.x,vA Q.y,vB Q.y,vC Q.y,vD Q.y,vE Q.y] 64)).alloc (.cells #[vA R.x,vB R.x,vC R.x,vD R.x,vE R.x,vA R.y,vB R.y,vC R.y,vD R.y,vE R.y] 64))=w7 at *
       generalize hpb:w6.heap.size=pb at *
       have hpb7:pb+1+1<w7.heap.size:=by omega
       have hpb12:w12.heap.size≤pb:=by omega
       have hpa7:pb<w7.heap.size:=by omega
       have hpc7:pb+1<w7.heap.size:=by omega
       clear hpb hz7 hc6 hf6 HG6 hszr
       have HF7:=Lh (HB.out.gr HG7.out hfb)
       obtain ⟨d0,d1,d2,d3⟩:_∧_∧_∧_:=⟨HF7.out.c 0 _ rfl,HF7.out.c 1 _ rfl,HF7.out.c 2 _ rfl,HF7.out.c 3 _ rfl⟩
       go_wp2_with fail
       refine(HCO.out _ HG7.out).mono ?_
       rintro e w8 ⟨u,v,rfl,hu,hv,hg8⟩
       obtain ⟨au,cu,rfl⟩:=hu.at
       obtain ⟨av,cv,rfl⟩:=hv.at
       have hsz8:=hg8.size
       clear d0 d1 d2 d3 HF7 HCO HCC
       go_upto_region 19 with fail
       have HB9:=Lh (show VB (w8.alloc (.cells #[.slice au FX.length cu,.slice av FY.length cv] 47)) w8.heap.size [.slice au FX.length cu,.slice av FY.length cv]from by exact vbb)
       have HG79:=Lh (show Gr w7.heap.size w7 (w8.alloc (.cells #[.slice au FX.length cu,.slice av FY.length cv] 47))from(show Gr w7.heap.size w7 w8 from hg8).trans (by exact gzz))
       have HU:=Lh (show PL (w8.alloc (.cells #[.slice au FX.length cu,.slice av FY.length cv] 47)) 0 _ _ from(hu.mono (Nat.zero_le _)).gr (by exact gzz))
       have HW:=Lh (show PL (w8.alloc (.cells #[.slice au FX.length cu,.slice av FY.length cv] 47)) 0 _ _ from(hv.mono (Nat.zero_le _)).gr (by exact gzz))
       have hz9:(w8.alloc (.cells #[.slice au FX.length cu,.slice av FY.length cv] 47)).heap.size=w8.heap.size+1:=by simp
       generalize (w8.alloc (.cells #[.slice au FX.length cu,.slice av FY.length cv] 47))=w9 at *
       generalize w8.heap.size=kb at *
       clear hu hv hg8
       have HP0b:=Lh (HP0.out.gr HG79.out (by omega))
       have HP1b:=Lh (HP1.out.gr HG79.out (by omega))
       have HP2b:=Lh (HP2.out.gr HG79.out (by omega))
       have HG9:=Lh (HG7.out.trans (HG79.out.mono HG7.out.size))
       have s9:=HG9.out.size
       have hkb9:kb<w9.heap.size:=by omega
       have hpb9:pb+1+1<w9.heap.size:=by omega
       have hpa9:pb<w9.heap.size:=by omega
       have hpc9:pb+1<w9.heap.size:=by omega
       have hgw9:gw<w9.heap.size:=by omega
       have hgn9:gn<w9.heap.size:=by omega
       have HVq:=Lh (HVp.out.gr HG9.out hwp)
       clear HP0 HP1 HP2 HG7 HG79 hpb7 hpa7 hpc7 hz9 s9 hsz8
       obtain ⟨p0,p1,p2,p3,p4,p5,p6,p7,p8,p9⟩:=HP0b.out.ten
       obtain ⟨q0,q1,q2,q3,q4,q5,q6,q7,q8,q9⟩:=HP1b.out.ten
       obtain ⟨s0,s1,s2,s3,s4,s5,s6,s7,s8,s9⟩:=HP2b.out.ten
       obtain ⟨r0,r1,r2,r3,r4⟩:=HRN.out
       rw [←HG9.out.cell (p:=⟨gn,j*5,none⟩) hnp]at r0
       rw [←HG9.out.cell (p:=⟨gn,j*5+1,none⟩) hnp]at r1
       rw [←HG9.out.cell (p:=⟨gn,j*5+2,none⟩) hnp]at r2
       rw [←HG9.out.cell (p:=⟨gn,j*5+3,none⟩) hnp]at r3
       rw [←HG9.out.cell (p:=⟨gn,j*5+4,none⟩) hnp]at r4
       have y0:=HB9.out.c 0 _ rfl
       have y1:=HB9.out.c 1 _ rfl
       have y2:=HVq.out.c 0 _ rfl
       have y3:=HVq.out.c 1 _ rfl
       refine wp_region_held_drew (S:=(fun w'=>w'.cell? ⟨pb,0,none⟩=some (vA P.x)∧w'.cell? ⟨pb,1,none⟩=some (vB P.x)∧w'.cell? ⟨pb,2,none⟩=some (vC P.x)∧w'.cell? ⟨pb,3,none⟩=some (vD P.x)∧w'.cell? ⟨pb,4,none⟩=some (vE P.x)∧w'.cell? ⟨pb,5,none⟩=some (vA P.y)∧w'.cell? ⟨pb,6,none⟩=some (vB P.y)∧w'.cell? ⟨pb,7,none⟩=some (vC P.y)∧w'.cell? ⟨pb,8,none⟩=some (vD P.y)∧w'.cell? ⟨pb,9,none⟩=some (vE P.y)∧w'.cell? ⟨pb+1,0,none⟩=some (vA Q.x)∧w'.cell? ⟨pb+1,1,none⟩=some (vB Q.x)∧w'.cell? ⟨pb+1,2,none⟩=some (vC Q.x)∧w'.cell? ⟨pb+1,3,none⟩=some (vD Q.x)∧w'.cell? ⟨pb+1,4,none⟩=some (vE Q.x)∧w'.cell? ⟨pb+1,5,none⟩=some (vA Q.y)∧w'.cell? ⟨pb+1,6,none⟩=some (vB Q.y)∧w'.cell? ⟨pb+1,7,none⟩=some (vC Q.y)∧w'.cell? ⟨pb+1,8,none⟩=some (vD Q.y)∧w'.cell? ⟨pb+1,9,none⟩=some (vE Q.y)∧w'.cell? ⟨pb+1+1,0,none⟩=some (vA R.x)∧w'.cell? ⟨pb+1+1,1,none⟩=some (vB R.x)∧w'.cell? ⟨pb+1+1,2,none⟩=some (vC R.x)∧w'.cell? ⟨pb+1+1,3,none⟩=some (vD R.x)∧w'.cell? ⟨pb+1+1,4,none⟩=some (vE R.x)∧w'.cell? ⟨pb+1+1,5,none⟩=some (vA R.y)∧w'.cell? ⟨pb+1+1,6,none⟩=some (vB R.y)∧w'.cell? ⟨pb+1+1,7,none⟩=some (vC R.y)∧w'.cell? ⟨pb+1+1,8,none⟩=some (vD R.y)∧w'.cell? ⟨pb+1+1,9,none⟩=some (vE R.y)∧w'.cell? ⟨kb,0,none⟩=some (.slice au FX.length cu)∧w'.cell? ⟨kb,1,none⟩=some (.slice av FY.length cv)∧w'.cell? ⟨gw,0,none⟩=some (.slice b0 OX.length t0)∧w'.cell? ⟨gw,1,none⟩=some (.slice b1 OY.length t1)∧w'.cell? ⟨gn,j*5,none⟩=some (vA nr)∧w'.cell? ⟨gn,j*5+1,none⟩=some (vB nr)∧w'.cell? ⟨gn,j*5+2,none⟩=some (vC nr)∧w'.cell? ⟨gn,j*5+3,none⟩=some (vD nr)∧w'.cell? ⟨gn,j*5+4,none⟩=some (vE nr))) (by kernel_rfl) ?_ (fun hHeld=>?_)
       ·simp [go_sem, *]
       refine tq 0 123 (.slice (some ⟨gn,0,none⟩) m.tris.length cn) ?_
       refine tq 1 124 (.int .i64 (j:Int)) ?_
       refine tq 2 125 (.pointer (some ⟨gn,j*5,none⟩)) ?_
       refine tq 3 126 (fracV nr) ?_
       refine tq 4 127 (.slice a23 SM.length c23) ?_
       refine tq 5 128 (pV P) ?_
       refine tq 7 130 (pV Q) ?_
       refine tq 9 132 (pV R) ?_
       refine rd 6 (fun K hK=>?_)
       go_simp
       (refine rtt ((fpair_1 P _)) fun w31 hsz31 hc31 hf31 HG31=>?_;(try simp at hsz31);have hy31_0:gn<w31.heap.size:=(by omega);have hy31_1:gw<w31.heap.size:=(by omega);have hy31_2:kb<w31.heap.size:=(by omega);have hy31_3:pb<w31.heap.size:=(by omega);have hy31_4:pb+1<w31.heap.size:=(by omega);have hy31_5:pb+1+1<w31.heap.size:=(by omega);have hp31_1_0:gn<w31.heap.size+1:=(by omega);have hp31_1_1:gw<w31.heap.size+1:=(by omega);have hp31_1_2:kb<w31.heap.size+1:=(by omega);have hp31_1_3:pb<w31.heap.size+1:=(by omega);have hp31_1_4:pb+1<w31.heap.size+1:=(by omega);have hp31_1_5:pb+1+1<w31.heap.size+1:=(by omega);have hp31_2_0:gn<w31.heap.size+1+1:=(by omega);have hp31_2_1:gw<w31.heap.size+1+1:=(by omega);have hp31_2_2:kb<w31.heap.size+1+1:=(by omega);have hp31_2_3:pb<w31.heap.size+1+1:=(by omega);have hp31_2_4:pb+1<w31.heap.size+1+1:=(by omega);have hp31_2_5:pb+1+1<w31.heap.size+1+1:=(by omega))
       refine kO hK fun hQ1=>?_
       clear hK K hHeld
       refine rd 8 (fun K hK=>?_)
       go_simp
       (refine rtt ((fpair_1 Q _)) fun w32 hsz32 hc32 hf32 HG32=>?_;(try simp at hsz32);have hy32_0:gn<w32.heap.size:=(by omega);have hy32_1:gw<w32.heap.size:=(by omega);have hy32_2:kb<w32.heap.size:=(by omega);have hy32_3:pb<w32.heap.size:=(by omega);have hy32_4:pb+1<w32.heap.size:=(by omega);have hy32_5:pb+1+1<w32.heap.size:=(by omega);have hp32_1_0:gn<w32.heap.size+1:=(by omega);have hp32_1_1:gw<w32.heap.size+1:=(by omega);have hp32_1_2:kb<w32.heap.size+1:=(by omega);have hp32_1_3:pb<w32.heap.size+1:=(by omega);have hp32_1_4:pb+1<w32.heap.size+1:=(by omega);have hp32_1_5:pb+1+1<w32.heap.size+1:=(by omega);have hp32_2_0:gn<w32.heap.size+1+1:=(by omega);have hp32_2_1:gw<w32.heap.size+1+1:=(by omega);have hp32_2_2:kb<w32.heap.size+1+1:=(by omega);have hp32_2_3:pb<w32.heap.size+1+1:=(by omega);have hp32_2_4:pb+1<w32.heap.size+1+1:=(by omega);have hp32_2_5:pb+1+1<w32.heap.size+1+1:=(by omega))
       refine kO hK fun hQ2=>?_
       clear hK K hQ1
       refine rd 10 (fun K hK=>?_)
       go_simp
       (refine rtt ((fpair_1 R _)) fun w33 hsz33 hc33 hf33 HG33=>?_;(try simp at hsz33);have hy33_0:gn<w33.heap.size:=(by omega);have hy33_1:gw<w33.heap.size:=(by omega);have hy33_2:kb<w33.heap.size:=(by omega);have hy33_3:pb<w33.heap.size:=(by omega);have hy33_4:pb+1<w33.heap.size:=(by omega);have hy33_5:pb+1+1<w33.heap.size:=(by omega);have hp33_1_0:gn<w33.heap.size+1:=(by omega);have hp33_1_1:gw<w33.heap.size+1:=(by omega);have hp33_1_2:kb<w33.heap.size+1:=(by omega);have hp33_1_3:pb<w33.heap.size+1:=(by omega);have hp33_1_4:pb+1<w33.heap.size+1:=(by omega);have hp33_1_5:pb+1+1<w33.heap.size+1:=(by omega);have hp33_2_0:gn<w33.heap.size+1+1:=(by omega);have hp33_2_1:gw<w33.heap.size+1+1:=(by omega);have hp33_2_2:kb<w33.heap.size+1+1:=(by omega);have hp33_2_3:pb<w33.heap.size+1+1:=(by omega);have hp33_2_4:pb+1<w33.heap.size+1+1:=(by omega);have hp33_2_5:pb+1+1<w33.heap.size+1+1:=(by omega))
       refine kO hK fun hQ3=>?_
       clear hK K hQ2
       refine rd 11 (fun K hK=>?_)
       go_simp
       (refine rtt (HT3.out _ _ (HPp.out.gr (by exact gcc HG33 (gcc HG32 (gcc HG31 (gcc HG9 gzz)))))) fun w34 hsz34 hc34 hf34 HG34=>?_;(try simp at hsz34);have hy34_0:gn<w34.heap.size:=(by omega);have hy34_1:gw<w34.heap.size:=(by omega);have hy34_2:kb<w34.heap.size:=(by omega);have hy34_3:pb<w34.heap.size:=(by omega);have hy34_4:pb+1<w34.heap.size:=(by omega);have hy34_5:pb+1+1<w34.heap.size:=(by omega);have hp34_1_0:gn<w34.heap.size+1:=(by omega);have hp34_1_1:gw<w34.heap.size+1:=(by omega);have hp34_1_2:kb<w34.heap.size+1:=(by omega);have hp34_1_3:pb<w34.heap.size+1:=(by omega);have hp34_1_4:pb+1<w34.heap.size+1:=(by omega);have hp34_1_5:pb+1+1<w34.heap.size+1:=(by omega);have hp34_2_0:gn<w34.heap.size+1+1:=(by omega);have hp34_2_1:gw<w34.heap.size+1+1:=(by omega);have hp34_2_2:kb<w34.heap.size+1+1:=(by omega);have hp34_2_3:pb<w34.heap.size+1+1:=(by omega);have hp34_2_4:pb+1<w34.heap.size+1+1:=(by omega);have hp34_2_5:pb+1+1<w34.heap.size+1+1:=(by omega))
       refine kO hK fun hQ4=>?_
       clear hK K hQ3
       refine tq 12 135 (.bool false) ?_
       refine tq 13 136 (.bool false) ?_
       refine tq 14 137 (.int .i64 0) ?_
       refine tq 15 138 (.bool false) ?_
       refine tq 16 139 (.bool false) ?_
       refine tq 17 140 (.bool false) ?_
       refine tq 18 141 (.pointer (some ⟨kb,0,none⟩)) ?_
       refine tq 19 142 (.slice au FX.length cu) ?_
       refine tq 20 143 (.pointer (some ⟨gw,0,none⟩)) ?_
       refine tq 21 144 (.slice b0 OX.length t0) ?_
       refine rd 22 (fun K hK=>?_)
       go_simp
       (refine rtt (K1.out _ _ _ (HU.out.gr (by exact gcc HG34 (gcc HG33 (gcc HG32 (gcc HG31 gzz))))) (HXp.out.gr (by exact gcc HG34 (gcc HG33 (gcc HG32 (gcc HG31 (gcc HG9 gzz))))))) fun w35 hsz35 hc35 hf35 HG35=>?_;(try simp at hsz35);have hy35_0:gn<w35.heap.size:=(by omega);have hy35_1:gw<w35.heap.size:=(by omega);have hy35_2:kb<w35.heap.size:=(by omega);have hy35_3:pb<w35.heap.size:=(by omega);have hy35_4:pb+1<w35.heap.size:=(by omega);have hy35_5:pb+1+1<w35.heap.size:=(by omega);have hp35_1_0:gn<w35.heap.size+1:=(by omega);have hp35_1_1:gw<w35.heap.size+1:=(by omega);have hp35_1_2:kb<w35.heap.size+1:=(by omega);have hp35_1_3:pb<w35.heap.size+1:=(by omega);have hp35_1_4:pb+1<w35.heap.size+1:=(by omega);have hp35_1_5:pb+1+1<w35.heap.size+1:=(by omega);have hp35_2_0:gn<w35.heap.size+1+1:=(by omega);have hp35_2_1:gw<w35.heap.size+1+1:=(by omega);have hp35_2_2:kb<w35.heap.size+1+1:=(by omega);have hp35_2_3:pb<w35.heap.size+1+1:=(by omega);have hp35_2_4:pb+1<w35.heap.size+1+1:=(by omega);have hp35_2_5:pb+1+1<w35.heap.size+1+1:=(by omega))
       refine kO hK fun hQ5=>?_
       clear hK K hQ4
       refine tq 23 146 (.bool false) ?_
       refine tq 24 147 (.bool false) ?_
       refine tq 25 148 (.bool false) ?_
       refine tq 26 149 (.pointer (some ⟨kb,1,none⟩)) ?_
       refine tq 27 150 (.slice av FY.length cv) ?_
       refine tq 28 151 (.pointer (some ⟨gw,1,none⟩)) ?_
       refine tq 29 152 (.slice b1 OY.length t1) ?_
       refine rd 30 (fun K hK=>?_)
       go_simp
       (refine rtt (K2.out _ _ _ (HW.out.gr (by exact gcc HG35 (gcc HG34 (gcc HG33 (gcc HG32 (gcc HG31 gzz)))))) (HYp.out.gr (by exact gcc HG35 (gcc HG34 (gcc HG33 (gcc HG32 (gcc HG31 (gcc HG9 gzz)))))))) fun w36 hsz36 hc36 hf36 HG36=>?_;(try simp at hsz36);have hy36_0:gn<w36.heap.size:=(by omega);have hy36_1:gw<w36.heap.size:=(by omega);have hy36_2:kb<w36.heap.size:=(by omega);have hy36_3:pb<w36.heap.size:=(by omega);have hy36_4:pb+1<w36.heap.size:=(by omega);have hy36_5:pb+1+1<w36.heap.size:=(by omega);have hp36_1_0:gn<w36.heap.size+1:=(by omega);have hp36_1_1:gw<w36.heap.size+1:=(by omega);have hp36_1_2:kb<w36.heap.size+1:=(by omega);have hp36_1_3:pb<w36.heap.size+1:=(by omega);have hp36_1_4:pb+1<w36.heap.size+1:=(by omega);have hp36_1_5:pb+1+1<w36.heap.size+1:=(by omega);have hp36_2_0:gn<w36.heap.size+1+1:=(by omega);have hp36_2_1:gw<w36.heap.size+1+1:=(by omega);have hp36_2_2:kb<w36.heap.size+1+1:=(by omega);have hp36_2_3:pb<w36.heap.size+1+1:=(by omega);have hp36_2_4:pb+1<w36.heap.size+1+1:=(by omega);have hp36_2_5:pb+1+1<w36.heap.size+1+1:=(by omega))
       refine kO hK fun hQ6=>?_
       clear hK K hQ5
       refine tq 31 154 (.bool false) ?_
       refine tq 32 155 (.bool false) ?_
       refine wpAnyH_done (by kernel_rfl) ?_ _
       clear p0 p1 p2 p3 p4 p5 p6 p7 p8 p9 q0 q1 q2 q3 q4 q5 q6 q7 q8 q9 s0 s1 s2 s3 s4 s5 s6 s7 s8 s9 r0 r1 r2 r3 r4 y0 y1 y2 y3
       go_wp2
       go_roundw
       case rel=>exact⟨j+1,by omega,by go_num,Lh (by exact gcc HG36 (gcc HG35 (gcc HG34 (gcc HG33 (gcc HG32 (gcc HG31 (gcc HG9 gzz)))))))⟩
       case measure=>simp [intOf];omega
      ·have hjn:j=m.tris.length:=by omega
       subst hjn
       go_wp2_with fail
       (refine rtt (HLv.out _) fun w6 hsz6 hc6 hf6 HG6=>?_;(try simp at hsz6))
       go_wp2
       go_ret
       exact⟨rfl,by exact gcc HG6 (gcc HG (gcc HGp gzz))⟩
end Go.Proofs.YtfgmdhjmgdccdaaGreat
