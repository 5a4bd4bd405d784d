/-
  Part 7 of the proof: NatK NatL Val.
-/
import Derived.Test.YtfgmdhjmgdccdaaGreatJ6
import Derived.Deep.MidRow
set_option linter.unusedSimpArgs false
set_option linter.unusedVariables false
set_option maxHeartbeats 8000000
namespace Go.Proofs.YtfgmdhjmgdccdaaGreat
open Go.RowKit Gus
structure NB (w:World) (g n:Nat):Prop where
 c0:w.cell? ⟨g,0,none⟩=some (.int .u64 (lowN n))
 c1:w.cell? ⟨g,1,none⟩=some (.string (bigS n))
 f0:w.frozen? ⟨g,0,none⟩=false
 f1:w.frozen? ⟨g,1,none⟩=false
 lt:g<w.heap.size
theorem NB.gr {B g n:Nat} {w w':World} (h:NB w g n) (hg:Gr B w w') (hB:g<B):NB w' g n:=
 ⟨(hg.cell (p:=⟨g,0,none⟩) hB).trans h.c0,(hg.cell (p:=⟨g,1,none⟩) hB).trans h.c1,(hg.frozen (p:=⟨g,0,none⟩) hB).trans h.f0,(hg.frozen (p:=⟨g,1,none⟩) hB).trans h.f1,Nat.lt_of_lt_of_le h.lt hg.size⟩
structure Four (w wx:World) (a b:Nat):Prop where
 a:NB wx w.heap.size a
 b:NB wx (w.heap.size+1) b
 q:NB wx (w.heap.size+1+1) 0
 r:NB wx (w.heap.size+1+1+1) 0
 gr:Gr w.heap.size w wx
 size:w.heap.size+4≤wx.heap.size
theorem Four.next {w wx w':World} {a b B:Nat} (h:Four w wx a b) (hg:Gr B wx w') (hB:w.heap.size+4≤B):Four w w' a b:=
 ⟨h.a.gr hg (by omega),h.b.gr hg (by omega),h.q.gr hg (by omega),h.r.gr hg (by omega),h.gr.trans (hg.mono (by omega)),Nat.le_trans h.size hg.size⟩
theorem Four.start (w:World) (a b:Nat):Four w ((((w.alloc (.cells #[.int .u64 (lowN a),.string (bigS a)] 53)).alloc (.cells #[.int .u64 (lowN b),.string (bigS b)] 53)).alloc (.cells #[.int .u64 0,.string ⟨#[]⟩] 53)).alloc (.cells #[.int .u64 0,.string ⟨#[]⟩] 53)) a b:=by
 have e0:((lowN 0:Nat):Int)=0:=by rw [lowN_small (by omega)];rfl
 have e1:bigS 0=⟨#[]⟩:=bigS_small (by omega)
 refine⟨?_,?_,?_,?_,((((Gr.refl _ _).alloc (Nat.le_refl _) _).alloc (by simp) _).alloc (by simp;omega) _).alloc (by simp;omega) _,by simp⟩
 all_goals (refine⟨?_,?_,?_,?_,?_⟩<;>(try rw [e0])<;>(try rw [e1])<;>(simp [go_sem];try omega))
def DivPost (w:World) (a b:Nat) (e:Ending) (w':World):Prop:=Ret w (.tuple #[natV (a / b),natV (a % b),.bool true]) e w'
theorem Four.fin {w wx:World} {a b q r:Nat} (h:Four w wx a b):
  let W:=(((wx.setCell ⟨w.heap.size+1+1,0,none⟩ (.int .u64 (lowN q))).setCell ⟨w.heap.size+1+1,1,none⟩ (.string (bigS q))).setCell ⟨w.heap.size+1+1+1,0,none⟩ (.int .u64 (lowN r))).setCell ⟨w.heap.size+1+1+1,1,none⟩ (.string (bigS r))
  Gr w.heap.size w W∧W.cell? ⟨w.heap.size+1+1,0,none⟩=some (.int .u64 (lowN q))∧W.cell? ⟨w.heap.size+1+1,1,none⟩=some (.string (bigS q))∧
   W.cell? ⟨w.heap.size+1+1+1,0,none⟩=some (.int .u64 (lowN r))∧W.cell? ⟨w.heap.size+1+1+1,1,none⟩=some (.string (bigS r)):=by
 intro W
 obtain ⟨q0,q1,_,_,_⟩:=h.q
 obtain ⟨r0,r1,_,_,_⟩:=h.r
 obtain ⟨_,_,a0,a1⟩:=set2 (.int .u64 (lowN q)) (.string (bigS q)) q0 q1
 have p0:=(cell_set (.string (bigS q)) (((cell_set (.int .u64 (lowN q)) q0 _ 1).trans (if_neg (by omega))).trans q1) (w.heap.size+1+1+1) 0).trans ((if_neg (by omega)).trans (((cell_set (.int .u64 (lowN q)) q0 (w.heap.size+1+1+1) 0).trans (if_neg (by omega))).trans r0))
 have p1:=(cell_set (.string (bigS q)) (((cell_set (.int .u64 (lowN q)) q0 _ 1).trans (if_neg (by omega))).trans q1) (w.heap.size+1+1+1) 1).trans ((if_neg (by omega)).trans (((cell_set (.int .u64 (lowN q)) q0 (w.heap.size+1+1+1) 1).trans (if_neg (by omega))).trans r1))
 obtain ⟨_,s1,b0,b1⟩:=set2 (.int .u64 (lowN r)) (.string (bigS r)) p0 p1
 have hG:Gr w.heap.size w W:=(((h.gr.setCell (by simp;omega) _).setCell (by simp;omega) _).setCell (by simp;omega) _).setCell (by simp;omega) _
 refine⟨hG,?_,?_,b0,b1⟩
 ·exact(cell_set (.string (bigS r)) s1 _ _).trans ((if_neg (by omega)).trans ((cell_set (.int .u64 (lowN r)) p0 _ _).trans ((if_neg (by omega)).trans a0)))
 ·exact(cell_set (.string (bigS r)) s1 _ _).trans ((if_neg (by omega)).trans ((cell_set (.int .u64 (lowN r)) p0 _ _).trans ((if_neg (by omega)).trans a1)))
set_option maxRecDepth 100000 in
set_option maxHeartbeats 1000000 in
theorem nats_Div_less {a b:Nat} (w:World) (ha:wl a≤549755813888) (hb:wl b≤549755813888) (h:a<b):
  Calls Tryz.prog 119 #[natV a,natV b] w (DivPost w a b):=by
 have hc:=cmpN_lt h
 have h0:=Lh (Four.start w a b)
 have hq0:decide (b=0)=false:=decide_eq_false (by omega)
 unfold DivPost
 rw [Nat.div_eq_of_lt h,Nat.mod_eq_of_lt h]
 have e0:((lowN 0:Nat):Int)=0:=by rw [lowN_small (by omega)];rfl
 have e1:bigS 0=⟨#[]⟩:=bigS_small (by omega)
 clear h
 unfold natV
 go_enter Tryz.func119,Tryz.ntmps119
 go_wp2_with fail
 refine(nats_zero b _).mono ?_
 rintro e w1 ⟨rfl,hg1⟩
 rw [hq0]
 have h1:=h0.out.next hg1 (by simp)
 obtain ⟨a0,a1,_,_,_⟩:=h1.a
 obtain ⟨b0,b1,_,_,_⟩:=h1.b
 have H1:=Lh h1
 clear hg1 h1 h0
 go_wp2_with fail
 refine(nats_Cmp a b _ (by omega) (by omega)).mono ?_
 rintro e w2 ⟨rfl,hg2⟩
 rw [hc]
 have h2:=H1.out.next hg2 H1.out.size
 clear a0 a1 b0 b1
 obtain ⟨a0,a1,_,_,_⟩:=h2.a
 obtain ⟨q0,q1,qf0,qf1,_⟩:=h2.q
 obtain ⟨r0,r1,rf0,rf1,_⟩:=h2.r
 have hfin:=h2.fin (q:=0) (r:=a)
 simp only [e0,e1]at hfin q0 q1 r0 r1 ⊢
 obtain ⟨hG,c0,c1,c2,c3⟩:=hfin
 have HG:=Lh hG
 clear hg2 h2 H1 hc hq0 hG
 go_wp2
 go_region
 go_wp2
 exact bodyPost_ret (v:= .tuple #[.agg #[.int .u64 (lowN 0),.string (bigS 0)],.agg #[.int .u64 (lowN a),.string (bigS a)],.bool true]) (by simp [results,Tryz.results119,go_sem,e0,e1,c0,c1,c2,c3]) rfl ⟨rfl,HG.out.drew⟩
set_option maxRecDepth 100000 in
set_option maxHeartbeats 1000000 in
theorem nats_Div_small {a b:Nat} (w:World) (h0:0<b) (h:b≤a) (hs:a<18446744073709551616):
  Calls Tryz.prog 119 #[natV a,natV b] w (DivPost w a b):=by
 have hc:(0:Int)≤cmpN a b:=by unfold cmpN;rw [if_neg (by omega)];split<;>omega
 have hF:=Lh (Four.start w a b)
 have hq0:decide (b=0)=false:=decide_eq_false (by omega)
 have ha:=wl_lt64 hs
 have hb:=wl_lt64 (n:=b) (by omega)
 have hba:=big_isEmpty a
 rw [decide_eq_true hs]at hba
 have hla:lowN a=a:=lowN_small hs
 have hlb:lowN b=b:=lowN_small (by omega)
 unfold DivPost
 have hlq:lowN (a / b)=a / b:=lowN_small (Nat.lt_of_le_of_lt (Nat.div_le_self _ _) hs)
 have hlr:lowN (a % b)=a % b:=lowN_small (Nat.lt_of_le_of_lt (Nat.mod_le _ _) hs)
 have hbq:bigS (a / b)=⟨#[]⟩:=bigS_small (Nat.lt_of_le_of_lt (Nat.div_le_self _ _) hs)
 have hbr:bigS (a % b)=⟨#[]⟩:=bigS_small (Nat.lt_of_le_of_lt (Nat.mod_le _ _) hs)
 have hnz:((b:Nat):Int)≠0:=by omega
 have e0:((lowN 0:Nat):Int)=0:=by rw [lowN_small (by omega)];rfl
 have e1:bigS 0=⟨#[]⟩:=bigS_small (by omega)
 have hw:IntKind.u64.wrap (((a:Nat):Int) / ((b:Nat):Int))=((a / b:Nat):Int):=by
  have hx:=Nat.div_le_self a b
  rw [←Int.natCast_ediv,IntKind.wrap_u64]
  omega
 have hm:((a:Nat):Int) % ((b:Nat):Int)=((a % b:Nat):Int):=(Int.natCast_emod a b).symm
 have HW:=Lh (And.intro hw hm)
 clear hw hm
 have hd1:((a / b:Nat):Int)≤a:=by have:=Nat.div_le_self a b;omega
 have hd2:((a % b:Nat):Int)≤a:=by have:=Nat.mod_le a b;omega
 have HS:Hid (a<18446744073709551616):=Lh hs
 have HE:=Lh (And.intro hla (And.intro hlb (And.intro hlq (And.intro hlr (And.intro hbq hbr)))))
 clear hs h hla hlb hlq hlr hbq hbr
 unfold natV
 go_enter Tryz.func119,Tryz.ntmps119
 go_wp2_with fail
 refine(nats_zero b _).mono ?_
 rintro e w1 ⟨rfl,hg1⟩
 rw [hq0]
 have h1:=hF.out.next hg1 (by simp)
 obtain ⟨a0,a1,_,_,_⟩:=h1.a
 obtain ⟨b0,b1,_,_,_⟩:=h1.b
 have H1:=Lh h1
 clear hg1 h1 hF
 go_wp2_with fail
 refine(nats_Cmp a b _ (by omega) (by omega)).mono ?_
 rintro e w2 ⟨rfl,hg2⟩
 have h2:=H1.out.next hg2 H1.out.size
 clear a0 a1 b0 b1
 obtain ⟨a0,a1,_,_,_⟩:=h2.a
 obtain ⟨b0,b1,_,_,_⟩:=h2.b
 obtain ⟨q0,q1,qf0,qf1,_⟩:=h2.q
 obtain ⟨r0,r1,rf0,rf1,_⟩:=h2.r
 have hfin:=h2.fin (q:=a / b) (r:=a % b)
 obtain ⟨hla,hlb,hlq,hlr,hbq,hbr⟩:=HE.out
 simp only [e0,e1,hla,hlb,hlq,hlr,hbq,hbr]at hfin q0 q1 r0 r1 a0 b0 ⊢
 obtain ⟨hG,c0,c1,c2,c3⟩:=hfin
 have HG:=Lh hG
 clear hg2 h2 H1 hq0 hG hla hlb hlq hlr hbq hbr
 generalize cmpN a b=c at *
 go_wp2
 go_region
 go_wp2
 rw [HW.out.1,HW.out.2]
 clear HW hd1 hd2
 generalize a / b=Q at *
 generalize a % b=R at *
 exact bodyPost_ret (v:= .tuple #[.agg #[.int .u64 ((Q:Nat):Int),.string ⟨#[]⟩],.agg #[.int .u64 ((R:Nat):Int),.string ⟨#[]⟩],.bool true]) (by simp [results,Tryz.results119,go_sem,c0,c1,c2,c3]) rfl ⟨by rw [HE.out.2.2.1,HE.out.2.2.2.1,HE.out.2.2.2.2.1,HE.out.2.2.2.2.2],HG.out.drew⟩
set_option maxRecDepth 100000 in
set_option maxHeartbeats 1000000 in
theorem nats_Div_short {a b:Nat} (w:World) (ha:wl a≤549755813888) (hb:wl b=1) (hs:18446744073709551616≤a):
  Calls Tryz.prog 119 #[natV a,natV b] w (DivPost w a b):=by
 have hb32:b<4294967296:=by have:=(wl_le_iff b 1).1 (by omega);omega
 have hc:(0:Int)≤cmpN a b:=by unfold cmpN;rw [if_neg (by omega)];split<;>omega
 have hF:=Lh (Four.start w a b)
 have hb0:0<b:=by
  rcases Nat.eq_zero_or_pos b with h|h
  ·rw [h,wl_zero]at hb;omega
  ·exact h
 have hq0:decide (b=0)=false:=decide_eq_false (by omega)
 have hba:=big_false (n:=a) (by omega)
 have hbd:dig b 0=b:=by unfold dig;rw [Nat.pow_zero,Nat.div_one,Nat.mod_eq_of_lt hb32]
 unfold DivPost
 have hlr:lowN (a % b)=a % b:=lowN_small (by have:=Nat.mod_lt a hb0;omega)
 have hbr:bigS (a % b)=⟨#[]⟩:=bigS_small (by have:=Nat.mod_lt a hb0;omega)
 have hrb:((a % b:Nat):Int)<4294967296:=by have:=Nat.mod_lt a hb0;omega
 have e0:((lowN 0:Nat):Int)=0:=by rw [lowN_small (by omega)];rfl
 have e1:bigS 0=⟨#[]⟩:=bigS_small (by omega)
 have HE:=Lh (And.intro hlr (And.intro hbr (And.intro hbd (And.intro hb (And.intro hb0 (And.intro hb32 hrb))))))
 clear hs hlr hbr hbd hb hb0 hb32 hrb
 unfold natV
 go_enter Tryz.func119,Tryz.ntmps119
 go_wp2_with fail
 refine(nats_zero b _).mono ?_
 rintro e w1 ⟨rfl,hg1⟩
 rw [hq0]
 have h1:=hF.out.next hg1 (by simp)
 obtain ⟨a0,a1,_,_,_⟩:=h1.a
 obtain ⟨b0,b1,_,_,_⟩:=h1.b
 have H1:=Lh h1
 clear hg1 h1 hF
 go_wp2_with fail
 refine(nats_Cmp a b _ (by omega) (by have:=HE.out.2.2.2.1;omega)).mono ?_
 rintro e w2 ⟨rfl,hg2⟩
 have h2:=H1.out.next hg2 H1.out.size
 clear a0 a1 b0 b1
 obtain ⟨a0,a1,_,_,_⟩:=h2.a
 obtain ⟨b0,b1,_,_,_⟩:=h2.b
 have H2:=Lh h2
 clear hg2 h2 H1 hq0
 generalize cmpN a b=c at *
 go_wp2_with fail
 refine(nats_words b _ (by have:=HE.out.2.2.2.1;omega)).mono ?_
 rintro e w3 ⟨v3,rfl,hv3,hg3⟩
 rw [HE.out.2.2.2.1]at hv3
 obtain ⟨Y,cy,rfl,hcy,hy⟩:=hv3.open
 obtain ⟨g,o,rfl,hgB,hgs,hyc,_⟩:=hy.at_ (k:=0) (by omega)
 rw [HE.out.2.2.1]at hyc
 have h3:=H2.out.next hg3 H2.out.size
 clear a0 a1 b0 b1
 obtain ⟨a0,a1,_,_,hsa⟩:=h3.a
 have H3:=Lh h3
 have HY:=Lh hy
 clear hg3 h3 H2 hy hv3
 have hb0:=HE.out.2.2.2.2.1
 have hb32:=HE.out.2.2.2.2.2.1
 rw [Nat.add_zero]at hyc
 go_wp2_with fail
 have hlt:w.heap.size<w3.heap.size:=hsa
 go_region_held3 (fun w'=>w'.cell? ⟨w.heap.size,0,none⟩=some (.int .u64 (lowN a))∧w'.cell? ⟨w.heap.size,1,none⟩=some (.string (bigS a))∧w'.cell? ⟨g,o,none⟩=some (.int .u32 b))
  (first|(simp [go_sem, *];done))
  (first
   | (go_at_call_of 124 (Value.agg #[.int .u64 (lowN a),.string (bigS a)]);refine(nats_words a _ (by omega)).mono ?_;rintro e w4 ⟨v4,rfl,hv4,hg4⟩;obtain ⟨X,cx,rfl,hcx,hx⟩:=hv4.open;have hg4:=hg4.of_drew;have hz4:w.heap.size<w4.heap.size:=(by have:=hg4.size;omega);have hy4:g<w4.heap.size:=(by have:=hg4.size;omega);obtain ⟨hc4,hf4⟩:=hg4.cells;have HX:=Lh hx;have HG4:=Lh hg4;clear hx hg4 hv4)
   | (go_at_call_of 163 (Value.slice X (wl a) cx);refine(nats_short (N:=a) (y:=b) (by omega) HX.out (lt_pow_wl a) hb0 hb32).mono ?_;rintro e w5 ⟨rfl,hv5,hg5⟩;have hz5:w.heap.size<w5.heap.size:=(by have:=hg5.size;omega);have hy5:g<w5.heap.size:=(by have:=hg5.size;omega);obtain ⟨hc5,hf5⟩:=hg5.cells;have HV5:=Lh hv5;have HG5:=Lh hg5;clear hv5 hg5))
 rw [←Int.natCast_emod]
 have h4:=H3.out.next HG4.out H3.out.size
 have h5:=h4.next HG5.out h4.size
 have H5:=Lh h5
 have hval:vf (dig (a / b)) (wl a)=a / b:=by rw [vf_dig,Nat.mod_eq_of_lt (Nat.lt_of_le_of_lt (Nat.div_le_self a b) (lt_pow_wl a))]
 clear a0 a1 hyc hc4 hf4 hc5 hf5 h4 h5
 go_wp2_with fail
 refine(nats_of (fun j _=>dig_lt _ _) (by omega) HV5.out).mono ?_
 rintro e w6 ⟨rfl,hg6⟩
 rw [hval]
 have h6:=H5.out.next hg6 H5.out.size
 obtain ⟨q0,q1,qf0,qf1,_⟩:=h6.q
 obtain ⟨r0,r1,rf0,rf1,_⟩:=h6.r
 have hfin:=h6.fin (q:=a / b) (r:=a % b)
 have hlr:=HE.out.1
 have hbr:=HE.out.2.1
 have hrb:=HE.out.2.2.2.2.2.2
 have hr0:(0:Int)≤((a % b:Nat):Int):=by omega
 simp only [e0,e1,hlr,hbr]at hfin q0 q1 r0 r1 ⊢
 obtain ⟨hG,c0,c1,c2,c3⟩:=hfin
 have HG:=Lh hG
 have HLR:=Lh (And.intro hlr hbr)
 clear hg6 h6 H5 H3 hG hlr hbr HE hval HV5 HG4 HG5 HX HY hb0 hb32
 generalize hQ:a / b=Q at *
 generalize hR:a % b=R at *
 have HQ:=Lh (And.intro hQ hR)
 clear hQ hR
 go_wp2
 exact bodyPost_ret (v:= .tuple #[.agg #[.int .u64 (lowN Q),.string (bigS Q)],.agg #[.int .u64 ((R:Nat):Int),.string ⟨#[]⟩],.bool true]) (by simp [results,Tryz.results119,go_sem,c0,c1,c2,c3]) rfl ⟨by rw [HQ.out.1,HQ.out.2,HLR.out.1,HLR.out.2],HG.out⟩
set_option maxRecDepth 100000 in
set_option maxHeartbeats 1000000 in
theorem nats_Div_long {a b:Nat} (w:World) (ha:wl a≤549755813888) (hb:2≤wl b) (h:b≤a) (hs:18446744073709551616≤a):
  Calls Tryz.prog 119 #[natV a,natV b] w (DivPost w a b):=by
 have hc:(0:Int)≤cmpN a b:=by unfold cmpN;rw [if_neg (by omega)];split<;>omega
 have hF:=Lh (Four.start w a b)
 have hab:=wl_mono h
 have hb0:0<b:=by
  rcases Nat.eq_zero_or_pos b with h|h
  ·rw [h,wl_zero]at hb;omega
  ·exact h
 have hq0:decide (b=0)=false:=decide_eq_false (by omega)
 have hba:=big_false (n:=a) (by omega)
 unfold DivPost
 have e0:((lowN 0:Nat):Int)=0:=by rw [lowN_small (by omega)];rfl
 have e1:bigS 0=⟨#[]⟩:=bigS_small (by omega)
 obtain ⟨m,hm⟩:∃m,wl a+1=wl b+m:=⟨wl a+1 - wl b,by omega⟩
 have hn1:((wl b:Nat):Int)≠1:=by omega
 have HE:=Lh (And.intro hab (And.intro hm hb0))
 clear hs h hab hm hb0
 unfold natV
 go_enter Tryz.func119,Tryz.ntmps119
 go_wp2_with fail
 refine(nats_zero b _).mono ?_
 rintro e w1 ⟨rfl,hg1⟩
 rw [hq0]
 have h1:=hF.out.next hg1 (by simp)
 obtain ⟨a0,a1,_,_,_⟩:=h1.a
 obtain ⟨b0,b1,_,_,_⟩:=h1.b
 have H1:=Lh h1
 clear hg1 h1 hF
 go_wp2_with fail
 refine(nats_Cmp a b _ (by omega) (by have:=HE.out.1;omega)).mono ?_
 rintro e w2 ⟨rfl,hg2⟩
 have h2:=H1.out.next hg2 H1.out.size
 clear a0 a1 b0 b1
 obtain ⟨a0,a1,_,_,_⟩:=h2.a
 obtain ⟨b0,b1,_,_,_⟩:=h2.b
 have H2:=Lh h2
 clear hg2 h2 H1 hq0
 generalize cmpN a b=c at *
 go_wp2_with fail
 refine(nats_words b _ (by have:=HE.out.1;omega)).mono ?_
 rintro e w3 ⟨v3,rfl,hv3,hg3⟩
 obtain ⟨Y,cy,rfl,hcy,hy⟩:=hv3.open
 have h3:=H2.out.next hg3 H2.out.size
 clear a0 a1 b0 b1
 obtain ⟨a0,a1,_,_,hsa⟩:=h3.a
 have H3:=Lh h3
 have HY:=Lh hy
 clear hg3 h3 H2 hy hv3
 go_wp2_with fail
 refine(nats_words a _ (by omega)).mono ?_
 rintro e w4 ⟨v4,rfl,hv4,hg4⟩
 obtain ⟨X,cx,rfl,hcx,hx⟩:=hv4.open
 have h4:=H3.out.next hg4 H3.out.size
 have hy4:=HY.out.gr hg4 (Nat.le_refl _)
 have H4:=Lh (And.intro h4 (And.intro hx hy4))
 clear hg4 h4 H3 hv4 hx hy4 a0 a1 HY
 go_wp2_with fail
 refine(nats_long ha rfl hb HE.out.2.1 (by have:=HE.out.1;have:=HE.out.2.1;omega) H4.out.2.1 H4.out.2.2).mono ?_
 rintro e w5 ⟨gu,gq,rfl,hq5,hr5,hg5⟩
 have h5:=H4.out.1.next hg5 H4.out.1.size
 have H5:=Lh (And.intro h5 (And.intro hq5 hr5))
 clear hg5 h5 H4 hq5 hr5
 have hvq:vf (dig (a / b)) m=a / b:=by
  rw [vf_dig,Nat.mod_eq_of_lt]
  have h1:=pow_wl_le (n:=b) (by have:=HE.out.2.2;omega)
  have h2:=lt_pow_wl a
  have h3:4294967296 ^ wl a=4294967296 ^ (wl b - 1)*4294967296 ^ m:=by rw [←Nat.pow_add];congr 1;have:=HE.out.2.1;omega
  rw [h3]at h2
  exact Nat.div_lt_of_lt_mul (Nat.lt_of_lt_of_le h2 (Nat.mul_le_mul_right _ h1))
 have hvr:vf (dig (a % b)) (wl b+m)=a % b:=by
  rw [vf_dig,Nat.mod_eq_of_lt]
  exact(wl_le_iff _ _).1 (Nat.le_trans (wl_mono (Nat.le_of_lt (Nat.mod_lt a HE.out.2.2))) (by omega))
 have HV:=Lh (And.intro hvq hvr)
 clear hvq hvr
 go_wp2_with fail
 refine(nats_of (fun j _=>dig_lt _ _) (by have:=HE.out.2.1;omega) H5.out.2.1).mono ?_
 rintro e w6 ⟨rfl,hg6⟩
 rw [HV.out.1]
 have h6:=H5.out.1.next hg6 H5.out.1.size
 have hr6:=H5.out.2.2.gr hg6 (Nat.le_refl _)
 have H6:=Lh (And.intro h6 hr6)
 clear hg6 h6 hr6 H5
 go_wp2_with fail
 refine(nats_of (fun j _=>dig_lt _ _) (by have:=HE.out.2.1;omega) H6.out.2).mono ?_
 rintro e w7 ⟨rfl,hg7⟩
 rw [HV.out.2]
 have h7:=H6.out.1.next hg7 H6.out.1.size
 obtain ⟨q0,q1,qf0,qf1,_⟩:=h7.q
 obtain ⟨r0,r1,rf0,rf1,_⟩:=h7.r
 have hfin:=h7.fin (q:=a / b) (r:=a % b)
 simp only [e0,e1]at q0 q1 r0 r1
 obtain ⟨hG,c0,c1,c2,c3⟩:=hfin
 have HG:=Lh hG
 clear hg7 h7 H6 hG HE HV
 generalize hQ:a / b=Q at *
 generalize hR:a % b=R at *
 have HQ:=Lh (And.intro hQ hR)
 clear hQ hR
 go_wp2
 exact bodyPost_ret (v:= .tuple #[.agg #[.int .u64 (lowN Q),.string (bigS Q)],.agg #[.int .u64 (lowN R),.string (bigS R)],.bool true]) (by simp [results,Tryz.results119,go_sem,c0,c1,c2,c3]) rfl ⟨by rw [HQ.out.1,HQ.out.2],HG.out⟩
theorem nats_Div (a b:Nat) (w:World) (ha:wl a≤549755813888) (hb:wl b≤549755813888) (h0:0<b):
  Calls Tryz.prog 119 #[natV a,natV b] w (Ret w (.tuple #[natV (a / b),natV (a % b),.bool true])):=by
 rcases Nat.lt_or_ge a b with h|h
 ·exact nats_Div_less w ha hb h
 ·rcases Nat.lt_or_ge a 18446744073709551616 with hs|hs
  ·exact nats_Div_small w h0 h hs
  ·rcases Nat.lt_or_ge (wl b) 2 with h2|h2
   ·refine nats_Div_short w ha ?_ hs
    have h1:¬wl b≤0:=fun h=>by have:=(wl_le_iff b 0).1 h;omega
    omega
   ·exact nats_Div_long w ha h2 h hs
end Go.Proofs.YtfgmdhjmgdccdaaGreat
namespace Go.Proofs.YtfgmdhjmgdccdaaGreat
open Go.RowKit Gus
open Classical in
noncomputable def numAt (w:World) (g:Nat):Nat:=if h:∃y,NB w g y then h.choose else 0
theorem NB.uniq {w:World} {g a b:Nat} (h:NB w g a) (k:NB w g b):a=b:=by
 have h0:=h.c0.symm.trans k.c0
 have h1:=h.c1.symm.trans k.c1
 refine nat_same.1 ⟨?_,?_⟩
 ·injection h0 with h0;injection h0 with _ h0;omega
 ·injection h1 with h1;injection h1 with h1
theorem numAt_eq {w:World} {g y:Nat} (h:NB w g y):numAt w g=y:=by
 unfold numAt
 rw [dif_pos ⟨y,h⟩]
 exact NB.uniq (Exists.choose_spec (⟨y,h⟩:∃y,NB w g y)) h
theorem NB.alloc {w:World} {g n:Nat} (h:NB w g n) (o:Obj):NB (w.alloc o) g n:=h.gr (B:=w.heap.size) ((Gr.refl _ _).alloc (Nat.le_refl _) o) h.lt
theorem NB.drew {w:World} {g n:Nat} (h:NB w g n):NB w.drew g n:=⟨h.c0,h.c1,h.f0,h.f1,h.lt⟩
theorem NB.far {w:World} {g n:Nat} (h:NB w g n) {p:Addr} (hp:p.block≠g) (v:Value):NB (w.setCell p v) g n:=by
 have hb:(w.setCell p v).heap[g]? =w.heap[g]? :=Below.heap_setCell _ _ _ _ (fun e=>hp e.symm)
 exact⟨(World.cell?_of_block (a:=⟨g,0,none⟩) hb).trans h.c0,(World.cell?_of_block (a:=⟨g,1,none⟩) hb).trans h.c1,(World.frozen?_of_block (a:=⟨g,0,none⟩) hb).trans h.f0,(World.frozen?_of_block (a:=⟨g,1,none⟩) hb).trans h.f1,by simp [World.setCell];exact h.lt⟩
theorem NB.set {w:World} {g n:Nat} (h:NB w g n) (m:Nat):NB ((w.setCell ⟨g,0,none⟩ (.int .u64 (lowN m))).setCell ⟨g,1,none⟩ (.string (bigS m))) g m:=by
 obtain ⟨_,_,e0,e1⟩:=set2 (.int .u64 (lowN m)) (.string (bigS m)) h.c0 h.c1
 exact⟨e0,e1,by simp [h.f0],by simp [h.f1],by simp [World.setCell];exact h.lt⟩
structure GcdL (w wr:World) (a b x y:Nat):Prop where
 pa:NB wr w.heap.size x
 pb:NB wr (w.heap.size+1) y
 po:NB wr (w.heap.size+1+1) 0
 gr:Gr w.heap.size w wr
 size:w.heap.size+3≤wr.heap.size
 gcd:Nat.gcd x y=Nat.gcd a b
 hx:x≤max a b
 hy:y≤max a b
theorem GcdL.start (w:World) (a b:Nat):GcdL w (((w.alloc (.cells #[.int .u64 (lowN a),.string (bigS a)] 53)).alloc (.cells #[.int .u64 (lowN b),.string (bigS b)] 53)).alloc (.cells #[.int .u64 0,.string ⟨#[]⟩] 53)) a b a b:=by
 have e0:((lowN 0:Nat):Int)=0:=by rw [lowN_small (by omega)];rfl
 have e1:bigS 0=⟨#[]⟩:=bigS_small (by omega)
 refine⟨?_,?_,?_,(((Gr.refl _ _).alloc (Nat.le_refl _) _).alloc (by simp) _).alloc (by simp;omega) _,by simp,rfl,by omega,by omega⟩
 all_goals (refine⟨?_,?_,?_,?_,?_⟩<;>(try rw [e0])<;>(try rw [e1])<;>(simp [go_sem];try omega))
set_option maxRecDepth 100000 in
set_option maxHeartbeats 1000000 in
theorem nats_Gcd (a b:Nat) (w:World) (ha:wl a≤549755813888) (hb:wl b≤549755813888):
  Calls Tryz.prog 118 #[natV a,natV b] w (Ret w (natV (Nat.gcd a b))):=by
 have h0:=Lh (GcdL.start w a b)
 have hm:wl (max a b)≤549755813888:=by rcases Nat.le_total a b with h|h<;>simp [h,ha,hb]
 unfold natV
 go_enter Tryz.func118,Tryz.ntmps118
 go_wp2_with fail
 go_loopw [5,6,7] (fun _ _ _ wr=> ∃x y,GcdL w wr a b x y) (fun _ _ _ wr=>numAt wr (w.heap.size+1))
 case atStart=>exact⟨a,b,h0.out⟩
 case round=>
  obtain ⟨x,y,hl⟩:=hrel
  obtain ⟨a0,a1,_,_,_⟩:=hl.pa
  obtain ⟨b0,b1,_,_,_⟩:=hl.pb
  have hxl:=wl_mono hl.hx
  have hyl:=wl_mono hl.hy
  have hms:=numAt_eq hl.pb
  have HL:=Lh hl
  have hlt:=hl.size
  clear hl h0
  go_wp2_with fail
  refine(nats_zero y _).mono ?_
  rintro e w1 ⟨rfl,hg1⟩
  have ha1:=HL.out.pa.gr hg1 (by omega)
  have hb1:=HL.out.pb.gr hg1 (by omega)
  have ho1:=HL.out.po.gr hg1 (by omega)
  have hG1:=HL.out.gr.trans (hg1.mono (by omega))
  have hs1:=Nat.le_trans HL.out.size hg1.size
  have H1:=Lh (And.intro ha1 (And.intro hb1 (And.intro ho1 (And.intro hG1 hs1))))
  clear a0 a1 b0 b1
  obtain ⟨a0,a1,af0,af1,_⟩:=ha1
  obtain ⟨b0,b1,bf0,bf1,_⟩:=hb1
  by_cases hy:y=0
  ·obtain ⟨q0,q1,qf0,qf1,_⟩:=ho1
   rw [decide_eq_true hy]
   have hx:x=Nat.gcd a b:=by have:=HL.out.gcd;rw [hy,Nat.gcd_zero_right]at this;exact this
   have HX:=Lh hx
   obtain ⟨_,_,e0,e1⟩:=set2 (.int .u64 (lowN x)) (.string (bigS x)) q0 q1
   clear hx hg1 hG1 hy hms
   go_wp2
   exact bodyPost_ret (v:= .agg #[.int .u64 (lowN x),.string (bigS x)]) (by simp [results,Tryz.results118,go_sem,e0,e1]) rfl ⟨by rw [HX.out],(H1.out.2.2.2.1.setCell (by simp;omega) _).setCell (by simp;omega) _⟩
  ·rw [decide_eq_false hy]
   have hy0:0<y:=by omega
   clear hg1 hG1 ho1
   go_wp2_with fail
   refine(nats_Div x y _ (by omega) (by omega) hy0).mono ?_
   rintro e w2 ⟨rfl,hg2⟩
   obtain ⟨ha1,hb1,ho1,hG1,hs1⟩:=H1.out
   have ha2:=ha1.gr hg2 (by omega)
   have hb2:=hb1.gr hg2 (by omega)
   have ho2:=ho1.gr hg2 (by omega)
   have hG2:=hG1.trans (hg2.mono (by omega))
   have hs2:=Nat.le_trans hs1 hg2.size
   have H2:=Lh (And.intro ha2 (And.intro hb2 (And.intro ho2 hG2)))
   clear a0 a1 b0 b1 af0 af1 bf0 bf1 hs1
   obtain ⟨a0,a1,af0,af1,_⟩:=ha2
   obtain ⟨b0,b1,bf0,bf1,_⟩:=hb2
   clear hg2 hG2 ho2 ha1 hb1 ho1 hG1
   generalize hR:x % y=R at *
   have HR:=Lh hR
   clear hR
   go_wp2
   go_region
   go_wp2
   go_roundw
   case rel=>
    obtain ⟨ha2,hb2,ho2,hG2⟩:=H2.out
    have hr:=Nat.mod_lt x hy0
    rw [HR.out]at hr
    refine⟨y,R,?_,?_,?_,?_,?_,?_,HL.out.hy,?_⟩
    ·exact(((((ha2.set y).far (by simp) _).far (by simp) _).alloc _).alloc _).drew
    ·exact((((hb2.far (by simp) _).far (by simp) _).set R).alloc _ |>.alloc _).drew
    ·exact((((((ho2.far (by simp;omega) _).far (by simp;omega) _).far (by simp) _).far (by simp) _).alloc _).alloc _).drew
    ·exact((((((hG2.setCell (by simp) _).setCell (by simp) _).setCell (by simp) _).setCell (by simp) _).alloc (by simp [World.setCell];omega) _).alloc (by simp [World.setCell];omega) _).drew
    ·simp [World.setCell];omega
    ·rw [←HR.out,Nat.gcd_comm y,←Nat.gcd_rec y x,Nat.gcd_comm,HL.out.gcd]
    ·exact Nat.le_trans (Nat.le_of_lt hr) HL.out.hy
   case measure=>
    obtain ⟨ha2,hb2,ho2,hG2⟩:=H2.out
    have hr:=Nat.mod_lt x hy0
    rw [HR.out]at hr
    rw [hms,numAt_eq (((((hb2.far (by simp) _).far (by simp) _).set R).alloc _ |>.alloc _).drew)]
    exact hr
end Go.Proofs.YtfgmdhjmgdccdaaGreat
namespace Go.Proofs.YtfgmdhjmgdccdaaGreat
open Go.RowKit Gus
structure VB (w:World) (g:Nat) (cs:List Value):Prop where
 c:∀j v,cs[j]? =some v→w.cell? ⟨g,j,none⟩=some v
 f:∀j,j<cs.length→w.frozen? ⟨g,j,none⟩=false
 lt:g<w.heap.size
section
variable {w w':World} {g B:Nat} {cs:List Value}
theorem VB.gr (h:VB w g cs) (hg:Gr B w w') (hB:g<B):VB w' g cs:=
 ⟨fun j v hv=>(hg.cell (p:=⟨g,j,none⟩) hB).trans (h.c j v hv),fun j hj=>(hg.frozen (p:=⟨g,j,none⟩) hB).trans (h.f j hj),Nat.lt_of_lt_of_le h.lt hg.size⟩
theorem VB.alloc (h:VB w g cs) (o:Obj):VB (w.alloc o) g cs:=h.gr (B:=w.heap.size) ((Gr.refl _ _).alloc (Nat.le_refl _) o) h.lt
theorem VB.drew (h:VB w g cs):VB w.drew g cs:=⟨h.c,h.f,h.lt⟩
theorem VB.far (h:VB w g cs) {p:Addr} (hp:p.block≠g) (v:Value):VB (w.setCell p v) g cs:=by
 have hb:(w.setCell p v).heap[g]? =w.heap[g]? :=Below.heap_setCell _ _ _ _ (fun e=>hp e.symm)
 exact⟨fun j u hu=>(World.cell?_of_block (a:=⟨g,j,none⟩) hb).trans (h.c j u hu),fun j hj=>(World.frozen?_of_block (a:=⟨g,j,none⟩) hb).trans (h.f j hj),by simp [World.setCell];exact h.lt⟩
theorem size_setCells (b:Nat):∀(vs:List Value) (o:Nat) (w:World),(w.setCells b o vs).heap.size=w.heap.size
 | [],_,_=>rfl
 | v :: r,o,w=>by rw [World.setCells,size_setCells b r];simp [World.setCell]
theorem VB.set (h:VB w g cs) (vs:List Value) (hl:vs.length=cs.length):VB (w.setCells g 0 vs) g vs:=by
 have ht:w.there g 0 vs.length:=fun j hj=>by
  rw [Nat.zero_add]
  refine⟨?_,h.f j (by omega)⟩
  rw [h.c j (cs[j]'(by omega)) (List.getElem?_eq_getElem (by omega))];rfl
 have hr:=World.rangeAt_setCells_same w g 0 vs ht
 exact⟨fun j v hv=>by have:=hr j v hv;rwa [Nat.zero_add]at this,fun j hj=>(World.frozen?_setCells _ _ _ _ _).trans (h.f j (by omega)),by rw [size_setCells];exact h.lt⟩
theorem VB.range (h:VB w g cs):w.rangeAt g 0 cs:=fun j v hv=>by rw [Nat.zero_add];exact h.c j v hv
theorem VB.new (w:World) (cs:List Value) (t:TypeId):VB (w.alloc (.cells cs.toArray t)) w.heap.size cs:=
 ⟨fun j v hv=>by simp [go_sem,hv],fun j _=>by simp [go_sem],by simp⟩
theorem VB.new' {w:World} {cs:List Value} {t:TypeId} {g:Nat} (hg:g=w.heap.size):VB (w.alloc (.cells cs.toArray t)) g cs:=by rw [hg];exact VB.new w cs t
theorem VB.three {a b c:Value} (h:VB w g [a,b,c]):w.cell? ⟨g,0,none⟩=some a∧w.cell? ⟨g,1,none⟩=some b∧w.cell? ⟨g,2,none⟩=some c∧
  w.frozen? ⟨g,0,none⟩=false∧w.frozen? ⟨g,1,none⟩=false∧w.frozen? ⟨g,2,none⟩=false:=
 ⟨h.c 0 a rfl,h.c 1 b rfl,h.c 2 c rfl,h.f 0 (by simp),h.f 1 (by simp),h.f 2 (by simp)⟩
theorem VB.two {a b:Value} (h:VB w g [a,b]):w.cell? ⟨g,0,none⟩=some a∧w.cell? ⟨g,1,none⟩=some b∧
  w.frozen? ⟨g,0,none⟩=false∧w.frozen? ⟨g,1,none⟩=false:=
 ⟨h.c 0 a rfl,h.c 1 b rfl,h.f 0 (by simp),h.f 1 (by simp)⟩
theorem VB.five {a b c d e:Value} (h:VB w g [a,b,c,d,e]):w.cell? ⟨g,0,none⟩=some a∧w.cell? ⟨g,1,none⟩=some b∧w.cell? ⟨g,2,none⟩=some c∧w.cell? ⟨g,3,none⟩=some d∧w.cell? ⟨g,4,none⟩=some e∧
  w.frozen? ⟨g,0,none⟩=false∧w.frozen? ⟨g,1,none⟩=false∧w.frozen? ⟨g,2,none⟩=false∧w.frozen? ⟨g,3,none⟩=false∧w.frozen? ⟨g,4,none⟩=false:=
 ⟨h.c 0 a rfl,h.c 1 b rfl,h.c 2 c rfl,h.c 3 d rfl,h.c 4 e rfl,h.f 0 (by simp),h.f 1 (by simp),h.f 2 (by simp),h.f 3 (by simp),h.f 4 (by simp)⟩
theorem VB.put2 {a b x y:Value} (h:VB w g [a,b]):VB ((w.setCell ⟨g,0,none⟩ x).setCell ⟨g,1,none⟩ y) g [x,y]:=h.set [x,y] rfl
theorem VB.put3 {a b c x y z:Value} (h:VB w g [a,b,c]):VB (((w.setCell ⟨g,0,none⟩ x).setCell ⟨g,1,none⟩ y).setCell ⟨g,2,none⟩ z) g [x,y,z]:=h.set [x,y,z] rfl
theorem VB.put5 {a b c d e x y z u v:Value} (h:VB w g [a,b,c,d,e]):VB (((((w.setCell ⟨g,0,none⟩ x).setCell ⟨g,1,none⟩ y).setCell ⟨g,2,none⟩ z).setCell ⟨g,3,none⟩ u).setCell ⟨g,4,none⟩ v) g [x,y,z,u,v]:=h.set [x,y,z,u,v] rfl
theorem ret_row {P:Program} {fn:Func} {R:Ending→World→Prop} {a:Act} {s:Nat} {t:TypeId} {d:TypeDesc} (hf:fn.results= #[.cell s t]) (hs:a.tmps[s]?.getD undef= .pointer (some ⟨g,0,none⟩))
  (hv:VB w g cs) (hu:P.underlying t=some d) (hd:d.isRow=true) (hi:(P.info? t).map (·.size)=some cs.length) (hD:a.defers= []) (hR:R (.returned (.agg cs.toArray)) w):bodyPost P fn R .ret a w:=by
 refine bodyPost_ret (v:= .agg cs.toArray) ?_ hD hR
 have hl:=run_loadVar_mid (P:=P) w g 0 t cs d hv.range hu hd hi
 simp only [results,hf,List.mapM_toArray,List.mapM_cons,List.mapM_nil,Array.getD_eq_getD_getElem?,hs,asAddr,Sem.run_bind,Functor.map]
 simp only [Sem.run_bind',Sem.run_bind,Sem.run_pure,Result.andThen_ok,hl,pure_bind,Function.comp]
 rfl
end
theorem vbb {w:World} {g:Nat} {cs:List Value} (h:VB w g cs:=by(with_reducible (repeat' (first|(refine VB.new' ?_;exact(by first|omega|(simp;done)|(simp;omega)))|apply VB.put2|apply VB.put3|apply VB.put5|refine VB.drew ?_|refine VB.far ?_ ?_ _|refine VB.alloc ?_ _|omega|(simp;done)|(simp;omega))))):VB w g cs:=h
theorem vbc {a b d:World} {n g:Nat} {cs:List Value} (H:Hid (Gr n a b)) (k:VB a g cs) (t:VB b g cs→VB d g cs:=by intro h;(with_reducible (repeat' (first|exact h|(refine VB.new' ?_;exact(by first|omega|(simp;done)|(simp;omega)))|apply VB.put2|apply VB.put3|apply VB.put5|refine VB.drew ?_|refine VB.far ?_ ?_ _|refine VB.alloc ?_ _|omega|(simp;done)|(simp;omega))))) (o:g<n:=by(first|omega|(simp;done)|(simp;omega))):VB d g cs:=t (k.gr H.out o)
theorem vbd {b d:World} {g:Nat} {cs:List Value} (k:VB b g cs) (t:VB b g cs→VB d g cs:=by intro h;(with_reducible (repeat' (first|exact h|(refine VB.new' ?_;exact(by first|omega|(simp;done)|(simp;omega)))|apply VB.put2|apply VB.put3|apply VB.put5|refine VB.drew ?_|refine VB.far ?_ ?_ _|refine VB.alloc ?_ _|omega|(simp;done)|(simp;omega))))):VB d g cs:=t k
end Go.Proofs.YtfgmdhjmgdccdaaGreat
