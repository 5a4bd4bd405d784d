/-
  Part 42 of the proof: Law.
-/
import Derived.Test.YtpnlfljfgfkejaaGreatJ29
import Derived.Test.YtpnlfljfgfkejaaGreatJ30
import Derived.Test.YtpnlfljfgfkejaaGreatJ12
import Derived.Test.YtpnlfljfgfkejaaGreatJ16
import Derived.WalkKit
import Derived.WalkSpells
import Derived.WalkLawsBesides
import Derived.Deep.RegionHeld3
import Derived.Deep.QuietTactic
import Derived.BigQuiet
import Derived.Deep.RegionWith
import Derived.KernelRfl
import Derived.Lib.Hide
import Derived.Maps.AppendAt
import Derived.Deep.AppendLies
import Derived.Laws.MakeOwn
import Derived.Laws.BitsAllLaws
import Derived.Laws.BytesArg
import Derived.Laws.StructEq
import Derived.Shelf.Spec.BitsCarry
import Derived.Deep.DeepCutAuto
import Derived.Laws.CopyOwn
import Derived.Deep.CutBlock
import Derived.Deep.CutRange
import Derived.Deep.MidRow
import Derived.Shelf.SlSortCmp.InsertionK
import Derived.Shelf.SlicesQ.Load
import Derived.Lib.SliceRun
import Derived.Shelf.SlSortCmp.NoneTotal
import Derived.Maps.OwnSet
import Derived.Maps.OwnOps
import Derived.Maps.Views
import Derived.DeepKeys4
import Derived.Maps.RangeWalk
import Derived.WideKeyEntry
import Derived.WalkMore
import Derived.Shelf.Abstract
import Derived.Deep.Upon
set_option linter.unusedSimpArgs false
set_option linter.unusedVariables false
namespace Go.Proofs.YtpnlfljfgfkejaaGreat
open Go.RowKit Gus
theorem frac_ne {zz:Rat} (hz:zz≠0):lowN (sz zz.num)≠0∨(lowN (sz zz.num)=0∧¬(bigS (sz zz.num)).toList= []):=by
 have hn:sz zz.num≠0:=by
  intro e
  exact hz (Rat.num_eq_zero.1 (by unfold sz at e;omega))
 rcases Nat.lt_or_ge (sz zz.num) 18446744073709551616 with h1|h1
 ·left;rw [lowN_small h1];exact hn
 ·refine .inr ⟨lowN_big h1,fun e=>?_⟩
  have h2:=bigS_size h1
  have h3:=wl_big h1
  rw [ByteArray.toList_eq]at e
  have h4:(bigS (sz zz.num)).data= #[]:=by simpa using e
  have h5:(bigS (sz zz.num)).size=0:=by
   show(bigS (sz zz.num)).data.size=0
   rw [h4];rfl
  omega
structure LawS (w wx:World) (g m:Nat) (M0 M1 M2 S0 S1 S2:Rat):Prop where
 v:VB wx g [.int .u64 (lowN (sz S0.num)),.string (bigS (sz S0.num)),.bool (ng S0.num),.int .u64 (lowN (fm S0)),.string (bigS (fm S0)),.int .u64 (lowN (sz S1.num)),.string (bigS (sz S1.num)),.bool (ng S1.num),.int .u64 (lowN (fm S1)),.string (bigS (fm S1)),.int .u64 (lowN (sz S2.num)),.string (bigS (sz S2.num)),.bool (ng S2.num),.int .u64 (lowN (fm S2)),.string (bigS (fm S2))]
 m_:VB wx m [.int .u64 (lowN (sz M0.num)),.string (bigS (sz M0.num)),.bool (ng M0.num),.int .u64 (lowN (fm M0)),.string (bigS (fm M0)),.int .u64 (lowN (sz M1.num)),.string (bigS (sz M1.num)),.bool (ng M1.num),.int .u64 (lowN (fm M1)),.string (bigS (fm M1)),.int .u64 (lowN (sz M2.num)),.string (bigS (sz M2.num)),.bool (ng M2.num),.int .u64 (lowN (fm M2)),.string (bigS (fm M2))]
 gr:Gr w.heap.size w wx
set_option maxRecDepth 20000 in
set_option maxHeartbeats 8000000 in
theorem law_raw (a0 a1 a2 c0 c1 c2:Int) (b0 b1 b2 d0 d1 d2:Nat) (K0 K1 K2 M0 M1 M2 S0 S1 S2 N0 N2:Rat) (L1:Nat) (L2:ByteArray) (L3:Bool) (L4:Nat) (L5:ByteArray) (s:Int) (good dm:Bool)
  (hz:(¬0<s∧good=false)∨(0<s∧L1=0∧L2=⟨#[]⟩∧L3=false∧L4=0∧L5=⟨#[]⟩∧good=false)∨(0<s∧L1≠0∧good=true)∨(0<s∧L1=0∧¬L2.toList= []∧good=true))
  (hA:∀w,Calls Tryz.prog 4 #[q3V a0 b0 a1 b1 a2 b2] w (Ret w (k3V K0 K1 K2)))
  (hSg:∀w,Calls Tryz.prog 9 #[fracV K0] w (Ret w (.int .i64 s)))
  (hZ:∀w,Calls Tryz.prog 5 #[qV a2 b2] w (Ret w (.agg #[.int .u64 (L1:Int),.string L2,.bool L3,.int .u64 (L4:Int),.string L5])))
  (hDk:∀w,Calls Tryz.prog 10 #[k3V K0 K1 K2] w (Ret w (.bool good)))
  (hN0:∀w,Calls Tryz.prog 11 #[fracV K0] w (Ret w (fracV N0)))
  (hN2:∀w,Calls Tryz.prog 11 #[fracV K2] w (Ret w (fracV N2)))
  (hDn:∀w,Calls Tryz.prog 10 #[k3V N0 K1 N2] w (Ret w (.bool false)))
  (hB:∀w,Calls Tryz.prog 12 #[q3V c0 d0 c1 d1 c2 d2] w (Ret w (k3V M0 M1 M2)))
  (hDm:∀w,Calls Tryz.prog 10 #[k3V M0 M1 M2] w (Ret w (.bool dm)))
  (hDt:∀w,Calls Tryz.prog 10 #[k3V M2 M1 M0] w (Ret w (.bool dm)))
  (hA0:∀w,Calls Tryz.prog 8 #[fracV K0,fracV M0] w (Ret w (fracV S0)))
  (hA1:∀w,Calls Tryz.prog 8 #[fracV K1,fracV M1] w (Ret w (fracV S1)))
  (hA2:∀w,Calls Tryz.prog 8 #[fracV K2,fracV M2] w (Ret w (fracV S2)))
  (hDs:good=true→dm=true→∀w,Calls Tryz.prog 10 #[k3V S0 S1 S2] w (Ret w (.bool true)))
  (hL:∀w,Calls Tryz.prog 13 #[] w (Ret w (.bool true))) (w:World):
  Calls Tryz.prog 3 #[q3V a0 b0 a1 b1 a2 b2,q3V c0 d0 c1 d1 c2 d2] w (Ret w (.bool true)):=by
 have HZ:=Lib.hid hz
 clear hz
 replace hA:=Lib.hid hA
 replace hSg:=Lib.hid hSg
 replace hZ:=Lib.hid hZ
 replace hDk:=Lib.hid hDk
 replace hN0:=Lib.hid hN0
 replace hN2:=Lib.hid hN2
 replace hDn:=Lib.hid hDn
 replace hB:=Lib.hid hB
 replace hDm:=Lib.hid hDm
 replace hDt:=Lib.hid hDt
 replace hA0:=Lib.hid hA0
 replace hA1:=Lib.hid hA1
 replace hA2:=Lib.hid hA2
 replace hDs:=Lib.hid hDs
 replace hL:=Lib.hid hL
 go_enter Tryz.func3,Tryz.ntmps3
 go_wp2_with fail
 (refine(hA.out _).mono ?_;rintro e w1 ⟨rfl,hg1⟩;(try (with_reducible replace hg1:=Gr.of_drew hg1));have hsz1:=hg1.size;(try simp at hsz1);have hz1_0:w.heap.size<w1.heap.size:=(by omega);have hz1_1:w.heap.size+1<w1.heap.size:=(by omega);obtain ⟨hc1,hf1⟩:=hg1.cells;have HG1:=Lib.hid hg1;clear hg1)
 go_upto_region 3 with fail
 have HK:=Lib.hid (show VB (w1.alloc (.cells #[.int .u64 (lowN (sz K0.num)),.string (bigS (sz K0.num)),.bool (ng K0.num),.int .u64 (lowN (fm K0)),.string (bigS (fm K0)),.int .u64 (lowN (sz K1.num)),.string (bigS (sz K1.num)),.bool (ng K1.num),.int .u64 (lowN (fm K1)),.string (bigS (fm K1)),.int .u64 (lowN (sz K2.num)),.string (bigS (sz K2.num)),.bool (ng K2.num),.int .u64 (lowN (fm K2)),.string (bigS (fm K2))] 35)) w1.heap.size [.int .u64 (lowN (sz K0.num)),.string (bigS (sz K0.num)),.bool (ng K0.num),.int .u64 (lowN (fm K0)),.string (bigS (fm K0)),.int .u64 (lowN (sz K1.num)),.string (bigS (sz K1.num)),.bool (ng K1.num),.int .u64 (lowN (fm K1)),.string (bigS (fm K1)),.int .u64 (lowN (sz K2.num)),.string (bigS (sz K2.num)),.bool (ng K2.num),.int .u64 (lowN (fm K2)),.string (bigS (fm K2))]from VB.new w1 _ _)
 have HQ:=Lib.hid (show VB (w1.alloc (.cells #[.int .u64 (lowN (sz K0.num)),.string (bigS (sz K0.num)),.bool (ng K0.num),.int .u64 (lowN (fm K0)),.string (bigS (fm K0)),.int .u64 (lowN (sz K1.num)),.string (bigS (sz K1.num)),.bool (ng K1.num),.int .u64 (lowN (fm K1)),.string (bigS (fm K1)),.int .u64 (lowN (sz K2.num)),.string (bigS (sz K2.num)),.bool (ng K2.num),.int .u64 (lowN (fm K2)),.string (bigS (fm K2))] 35)) w.heap.size [.int .i64 a0,.int .u32 b0,.int .i64 a1,.int .u32 b1,.int .i64 a2,.int .u32 b2]from by(with_reducible (repeat' (first|(refine VB.new' ?_;exact(by first|omega|(simp;done)|(simp;omega)))|apply VB.put2|apply VB.put3|apply VB.put5|refine VB.drew ?_|refine VB.far ?_ ?_ _|refine VB.alloc ?_ _|refine VB.gr ?_ HG1.out ?_|omega|(simp;done)|(simp;omega)))))
 have HP:=Lib.hid (show VB (w1.alloc (.cells #[.int .u64 (lowN (sz K0.num)),.string (bigS (sz K0.num)),.bool (ng K0.num),.int .u64 (lowN (fm K0)),.string (bigS (fm K0)),.int .u64 (lowN (sz K1.num)),.string (bigS (sz K1.num)),.bool (ng K1.num),.int .u64 (lowN (fm K1)),.string (bigS (fm K1)),.int .u64 (lowN (sz K2.num)),.string (bigS (sz K2.num)),.bool (ng K2.num),.int .u64 (lowN (fm K2)),.string (bigS (fm K2))] 35)) (w.heap.size+1) [.int .i64 c0,.int .u32 d0,.int .i64 c1,.int .u32 d1,.int .i64 c2,.int .u32 d2]from by(with_reducible (repeat' (first|(refine VB.new' ?_;exact(by first|omega|(simp;done)|(simp;omega)))|apply VB.put2|apply VB.put3|apply VB.put5|refine VB.drew ?_|refine VB.far ?_ ?_ _|refine VB.alloc ?_ _|refine VB.gr ?_ HG1.out ?_|omega|(simp;done)|(simp;omega)))))
 have HG0:=Lib.hid (show Gr w.heap.size w (w1.alloc (.cells #[.int .u64 (lowN (sz K0.num)),.string (bigS (sz K0.num)),.bool (ng K0.num),.int .u64 (lowN (fm K0)),.string (bigS (fm K0)),.int .u64 (lowN (sz K1.num)),.string (bigS (sz K1.num)),.bool (ng K1.num),.int .u64 (lowN (fm K1)),.string (bigS (fm K1)),.int .u64 (lowN (sz K2.num)),.string (bigS (sz K2.num)),.bool (ng K2.num),.int .u64 (lowN (fm K2)),.string (bigS (fm K2))] 35))from by(with_reducible (repeat' (first|exact Gr.refl _ _|refine Gr.drew ?_|refine Gr.setCell ?_ ?_ _|refine Gr.alloc ?_ ?_ _|refine Gr.trans ?_ (Gr.mono HG1.out ?_)|omega|(simp;done)|(simp;omega)))))
 have hs0:w.heap.size+1<w1.heap.size:=by omega
 have hs1:w1.heap.size<(w1.alloc (.cells #[.int .u64 (lowN (sz K0.num)),.string (bigS (sz K0.num)),.bool (ng K0.num),.int .u64 (lowN (fm K0)),.string (bigS (fm K0)),.int .u64 (lowN (sz K1.num)),.string (bigS (sz K1.num)),.bool (ng K1.num),.int .u64 (lowN (fm K1)),.string (bigS (fm K1)),.int .u64 (lowN (sz K2.num)),.string (bigS (sz K2.num)),.bool (ng K2.num),.int .u64 (lowN (fm K2)),.string (bigS (fm K2))] 35)).heap.size:=by simp
 clear HG1 hc1 hf1
 try clear hsz1
 try clear hz1_0
 try clear hz1_1
 generalize w1.alloc (.cells #[.int .u64 (lowN (sz K0.num)),.string (bigS (sz K0.num)),.bool (ng K0.num),.int .u64 (lowN (fm K0)),.string (bigS (fm K0)),.int .u64 (lowN (sz K1.num)),.string (bigS (sz K1.num)),.bool (ng K1.num),.int .u64 (lowN (fm K1)),.string (bigS (fm K1)),.int .u64 (lowN (sz K2.num)),.string (bigS (sz K2.num)),.bool (ng K2.num),.int .u64 (lowN (fm K2)),.string (bigS (fm K2))] 35)=w0 at *
 generalize w1.heap.size=kb at *
 have hb0:w.heap.size<w0.heap.size:=by omega
 have hb1:w.heap.size+1<w0.heap.size:=by omega
 have k0:=HK.out.c 0 _ rfl
 have k1:=HK.out.c 1 _ rfl
 have k2:=HK.out.c 2 _ rfl
 have k3:=HK.out.c 3 _ rfl
 have k4:=HK.out.c 4 _ rfl
 have k5:=HK.out.c 5 _ rfl
 have k6:=HK.out.c 6 _ rfl
 have k7:=HK.out.c 7 _ rfl
 have k8:=HK.out.c 8 _ rfl
 have k9:=HK.out.c 9 _ rfl
 have k10:=HK.out.c 10 _ rfl
 have k11:=HK.out.c 11 _ rfl
 have k12:=HK.out.c 12 _ rfl
 have k13:=HK.out.c 13 _ rfl
 have k14:=HK.out.c 14 _ rfl
 have u4:=HQ.out.c 4 _ rfl
 have u5:=HQ.out.c 5 _ rfl
 go_cut [7] (fun x wx=>x= .bool good∧Gr w0.heap.size w0 wx)
 case first=>
  rcases HZ.out with⟨e1,rfl⟩|⟨e1,rfl,rfl,rfl,rfl,rfl,rfl⟩|⟨e1,e2,rfl⟩|⟨e1,rfl,e2,rfl⟩
  ·clear HZ
   have e3:decide (0<s)=false:=by simp [e1]
   go_wp2_with fail
   (refine(hSg.out _).mono ?_;rintro e w2 ⟨rfl,hg2⟩;(try (with_reducible replace hg2:=Gr.of_drew hg2));have hsz2:=hg2.size;(try simp at hsz2);have hy2_0:kb<w2.heap.size:=(by omega);have hy2_1:w.heap.size<w2.heap.size:=(by omega);have hy2_2:w.heap.size+1<w2.heap.size:=(by omega);obtain ⟨hc2,hf2⟩:=hg2.cells;have HG2:=Lib.hid hg2;clear hg2)
   go_wp2
   go_meet
   exact⟨by simp [*],by(with_reducible (repeat' (first|exact Gr.refl _ _|refine Gr.drew ?_|refine Gr.setCell ?_ ?_ _|refine Gr.alloc ?_ ?_ _|refine Gr.trans ?_ (Gr.mono HG2.out ?_)|omega|(simp;done)|(simp;omega))))⟩
  ·clear HZ
   have e3:decide (0<s)=true:=by simp [e1]
   go_wp2_with fail
   (refine(hSg.out _).mono ?_;rintro e w2 ⟨rfl,hg2⟩;(try (with_reducible replace hg2:=Gr.of_drew hg2));have hsz2:=hg2.size;(try simp at hsz2);have hy2_0:kb<w2.heap.size:=(by omega);have hy2_1:w.heap.size<w2.heap.size:=(by omega);have hy2_2:w.heap.size+1<w2.heap.size:=(by omega);obtain ⟨hc2,hf2⟩:=hg2.cells;have HG2:=Lib.hid hg2;clear hg2)
   go_wp2_with fail
   (refine(hZ.out _).mono ?_;rintro e w3 ⟨rfl,hg3⟩;(try (with_reducible replace hg3:=Gr.of_drew hg3));have hsz3:=hg3.size;(try simp at hsz3);have hy3_0:kb<w3.heap.size:=(by omega);have hy3_1:w.heap.size<w3.heap.size:=(by omega);have hy3_2:w.heap.size+1<w3.heap.size:=(by omega);obtain ⟨hc3,hf3⟩:=hg3.cells;have HG3:=Lib.hid hg3;clear hg3)
   go_wp2
   go_meet
   exact⟨by simp [*],by(with_reducible (repeat' (first|exact Gr.refl _ _|refine Gr.drew ?_|refine Gr.setCell ?_ ?_ _|refine Gr.alloc ?_ ?_ _|refine Gr.trans ?_ (Gr.mono HG3.out ?_)|refine Gr.trans ?_ (Gr.mono HG2.out ?_)|omega|(simp;done)|(simp;omega))))⟩
  ·clear HZ
   have e3:decide (0<s)=true:=by simp [e1]
   have e4:¬((L1:Int)=0):=by omega
   go_wp2_with fail
   (refine(hSg.out _).mono ?_;rintro e w2 ⟨rfl,hg2⟩;(try (with_reducible replace hg2:=Gr.of_drew hg2));have hsz2:=hg2.size;(try simp at hsz2);have hy2_0:kb<w2.heap.size:=(by omega);have hy2_1:w.heap.size<w2.heap.size:=(by omega);have hy2_2:w.heap.size+1<w2.heap.size:=(by omega);obtain ⟨hc2,hf2⟩:=hg2.cells;have HG2:=Lib.hid hg2;clear hg2)
   go_wp2_with fail
   (refine(hZ.out _).mono ?_;rintro e w3 ⟨rfl,hg3⟩;(try (with_reducible replace hg3:=Gr.of_drew hg3));have hsz3:=hg3.size;(try simp at hsz3);have hy3_0:kb<w3.heap.size:=(by omega);have hy3_1:w.heap.size<w3.heap.size:=(by omega);have hy3_2:w.heap.size+1<w3.heap.size:=(by omega);obtain ⟨hc3,hf3⟩:=hg3.cells;have HG3:=Lib.hid hg3;clear hg3)
   go_wp2
   go_meet
   exact⟨by simp [*],by(with_reducible (repeat' (first|exact Gr.refl _ _|refine Gr.drew ?_|refine Gr.setCell ?_ ?_ _|refine Gr.alloc ?_ ?_ _|refine Gr.trans ?_ (Gr.mono HG3.out ?_)|refine Gr.trans ?_ (Gr.mono HG2.out ?_)|omega|(simp;done)|(simp;omega))))⟩
  ·clear HZ
   have e3:decide (0<s)=true:=by simp [e1]
   go_wp2_with fail
   (refine(hSg.out _).mono ?_;rintro e w2 ⟨rfl,hg2⟩;(try (with_reducible replace hg2:=Gr.of_drew hg2));have hsz2:=hg2.size;(try simp at hsz2);have hy2_0:kb<w2.heap.size:=(by omega);have hy2_1:w.heap.size<w2.heap.size:=(by omega);have hy2_2:w.heap.size+1<w2.heap.size:=(by omega);obtain ⟨hc2,hf2⟩:=hg2.cells;have HG2:=Lib.hid hg2;clear hg2)
   go_wp2_with fail
   (refine(hZ.out _).mono ?_;rintro e w3 ⟨rfl,hg3⟩;(try (with_reducible replace hg3:=Gr.of_drew hg3));have hsz3:=hg3.size;(try simp at hsz3);have hy3_0:kb<w3.heap.size:=(by omega);have hy3_1:w.heap.size<w3.heap.size:=(by omega);have hy3_2:w.heap.size+1<w3.heap.size:=(by omega);obtain ⟨hc3,hf3⟩:=hg3.cells;have HG3:=Lib.hid hg3;clear hg3)
   go_wp2
   all_goals go_meet
   all_goals (first|exact⟨by simp [*],by(with_reducible (repeat' (first|exact Gr.refl _ _|refine Gr.drew ?_|refine Gr.setCell ?_ ?_ _|refine Gr.alloc ?_ ?_ _|refine Gr.trans ?_ (Gr.mono HG3.out ?_)|refine Gr.trans ?_ (Gr.mono HG2.out ?_)|omega|(simp;done)|(simp;omega))))⟩|(exfalso;simp_all;done))
 case rest=>
  obtain ⟨rfl,hgr⟩:=hcut
  have hsr:=hgr.size
  have HK2:=Lib.hid (HK.out.gr hgr hs1)
  have HP2:=Lib.hid (HP.out.gr hgr hb1)
  have HG2:=Lib.hid (HG0.out.trans (hgr.mono (by omega)))
  have hkl:=HK2.out.lt
  have hpl:=HP2.out.lt
  clear HK HQ HP HG0 hgr HZ u4 u5 k0 k1 k2 k3 k4 k5 k6 k7 k8 k9 k10 k11 k12 k13 k14
  have k0:=HK2.out.c 0 _ rfl
  have k1:=HK2.out.c 1 _ rfl
  have k2:=HK2.out.c 2 _ rfl
  have k3:=HK2.out.c 3 _ rfl
  have k4:=HK2.out.c 4 _ rfl
  have k5:=HK2.out.c 5 _ rfl
  have k6:=HK2.out.c 6 _ rfl
  have k7:=HK2.out.c 7 _ rfl
  have k8:=HK2.out.c 8 _ rfl
  have k9:=HK2.out.c 9 _ rfl
  have k10:=HK2.out.c 10 _ rfl
  have k11:=HK2.out.c 11 _ rfl
  have k12:=HK2.out.c 12 _ rfl
  have k13:=HK2.out.c 13 _ rfl
  have k14:=HK2.out.c 14 _ rfl
  have p0:=HP2.out.c 0 _ rfl
  have p1:=HP2.out.c 1 _ rfl
  have p2:=HP2.out.c 2 _ rfl
  have p3:=HP2.out.c 3 _ rfl
  have p4:=HP2.out.c 4 _ rfl
  have p5:=HP2.out.c 5 _ rfl
  go_upto_region 4 with fail
  refine wp_region_held_drew (S:=(fun w'=>w'.cell? ⟨kb,0,none⟩=some (.int .u64 (lowN (sz K0.num)))∧w'.cell? ⟨kb,1,none⟩=some (.string (bigS (sz K0.num)))∧w'.cell? ⟨kb,2,none⟩=some (.bool (ng K0.num))∧w'.cell? ⟨kb,3,none⟩=some (.int .u64 (lowN (fm K0)))∧w'.cell? ⟨kb,4,none⟩=some (.string (bigS (fm K0)))∧w'.cell? ⟨kb,5,none⟩=some (.int .u64 (lowN (sz K1.num)))∧w'.cell? ⟨kb,6,none⟩=some (.string (bigS (sz K1.num)))∧w'.cell? ⟨kb,7,none⟩=some (.bool (ng K1.num))∧w'.cell? ⟨kb,8,none⟩=some (.int .u64 (lowN (fm K1)))∧w'.cell? ⟨kb,9,none⟩=some (.string (bigS (fm K1)))∧w'.cell? ⟨kb,10,none⟩=some (.int .u64 (lowN (sz K2.num)))∧w'.cell? ⟨kb,11,none⟩=some (.string (bigS (sz K2.num)))∧w'.cell? ⟨kb,12,none⟩=some (.bool (ng K2.num))∧w'.cell? ⟨kb,13,none⟩=some (.int .u64 (lowN (fm K2)))∧w'.cell? ⟨kb,14,none⟩=some (.string (bigS (fm K2))))) (by kernel_rfl) ?_ (fun hHeld=>?_)
  ·simp [go_sem, *]
  refine tk 0 (some 25) (.agg #[.int .u64 (lowN (sz K0.num)),.string (bigS (sz K0.num)),.bool (ng K0.num),.int .u64 (lowN (fm K0)),.string (bigS (fm K0)),.int .u64 (lowN (sz K1.num)),.string (bigS (sz K1.num)),.bool (ng K1.num),.int .u64 (lowN (fm K1)),.string (bigS (fm K1)),.int .u64 (lowN (sz K2.num)),.string (bigS (sz K2.num)),.bool (ng K2.num),.int .u64 (lowN (fm K2)),.string (bigS (fm K2))]) ?_
  try simp only [pS]
  refine tk 2 (some 27) (.bool good) ?_
  try simp only [pS]
  refine rd 1 (fun K hK=>?_)
  go_simp
  (refine(hDk.out _).mono ?_;rintro e w4 ⟨rfl,hg4⟩;(try (with_reducible replace hg4:=Gr.of_drew hg4));have hsz4:=hg4.size;(try simp at hsz4);have hy4_0:kb<w4.heap.size:=(by omega);have hy4_1:w.heap.size+1<w4.heap.size:=(by omega);obtain ⟨hc4,hf4⟩:=hg4.cells;have HG4:=Lib.hid hg4;clear hg4)
  (try dsimp only)
  refine hK.out _ _ ?_ (fun hQ1=>?_)
  ·(first|exact trivial|((try dsimp only);simp [go_sem, *]))
  clear hK K hHeld
  try simp only [pS]
  refine tk 3 (some 28) (.bool false) ?_
  try simp only [pS]
  refine tk 4 (some 29) (.bool false) ?_
  try simp only [pS]
  refine tk 5 (some 30) (.pointer (some ⟨kb,0,none⟩)) ?_
  try simp only [pS]
  refine tk 6 (some 31) (.agg #[.int .u64 (lowN (sz K0.num)),.string (bigS (sz K0.num)),.bool (ng K0.num),.int .u64 (lowN (fm K0)),.string (bigS (fm K0))]) ?_
  try simp only [pS]
  refine tk 8 (some 33) (.pointer (some ⟨kb,5,none⟩)) ?_
  try simp only [pS]
  refine tk 9 (some 34) (.agg #[.int .u64 (lowN (sz K1.num)),.string (bigS (sz K1.num)),.bool (ng K1.num),.int .u64 (lowN (fm K1)),.string (bigS (fm K1))]) ?_
  try simp only [pS]
  refine tk 10 (some 35) (.pointer (some ⟨kb,10,none⟩)) ?_
  try simp only [pS]
  refine tk 11 (some 36) (.agg #[.int .u64 (lowN (sz K2.num)),.string (bigS (sz K2.num)),.bool (ng K2.num),.int .u64 (lowN (fm K2)),.string (bigS (fm K2))]) ?_
  try simp only [pS]
  refine rd 7 (fun K hK=>?_)
  go_simp
  (refine(hN0.out _).mono ?_;rintro e w5 ⟨rfl,hg5⟩;(try (with_reducible replace hg5:=Gr.of_drew hg5));have hsz5:=hg5.size;(try simp at hsz5);have hy5_0:kb<w5.heap.size:=(by omega);have hy5_1:w.heap.size+1<w5.heap.size:=(by omega);obtain ⟨hc5,hf5⟩:=hg5.cells;have HG5:=Lib.hid hg5;clear hg5)
  (try dsimp only)
  refine hK.out _ _ ?_ (fun hQ2=>?_)
  ·(first|exact trivial|((try dsimp only);simp [go_sem, *]))
  clear hK K hQ1
  try simp only [pS]
  refine rd 12 (fun K hK=>?_)
  go_simp
  (refine(hN2.out _).mono ?_;rintro e w6 ⟨rfl,hg6⟩;(try (with_reducible replace hg6:=Gr.of_drew hg6));have hsz6:=hg6.size;(try simp at hsz6);have hy6_0:kb<w6.heap.size:=(by omega);have hy6_1:w.heap.size+1<w6.heap.size:=(by omega);obtain ⟨hc6,hf6⟩:=hg6.cells;have HG6:=Lib.hid hg6;clear hg6)
  (try dsimp only)
  refine hK.out _ _ ?_ (fun hQ3=>?_)
  ·(first|exact trivial|((try dsimp only);simp [go_sem, *]))
  clear hK K hQ2
  try simp only [pS]
  refine tk 13 (some 38) (.agg #[.int .u64 (lowN (sz N0.num)),.string (bigS (sz N0.num)),.bool (ng N0.num),.int .u64 (lowN (fm N0)),.string (bigS (fm N0)),.int .u64 (lowN (sz K1.num)),.string (bigS (sz K1.num)),.bool (ng K1.num),.int .u64 (lowN (fm K1)),.string (bigS (fm K1)),.int .u64 (lowN (sz N2.num)),.string (bigS (sz N2.num)),.bool (ng N2.num),.int .u64 (lowN (fm N2)),.string (bigS (fm N2))]) ?_
  try simp only [pS]
  refine rd 14 (fun K hK=>?_)
  go_simp
  (refine(hDn.out _).mono ?_;rintro e w7 ⟨rfl,hg7⟩;(try (with_reducible replace hg7:=Gr.of_drew hg7));have hsz7:=hg7.size;(try simp at hsz7);have hy7_0:kb<w7.heap.size:=(by omega);have hy7_1:w.heap.size+1<w7.heap.size:=(by omega);obtain ⟨hc7,hf7⟩:=hg7.cells;have HG7:=Lib.hid hg7;clear hg7)
  (try dsimp only)
  refine hK.out _ _ ?_ (fun hQ4=>?_)
  ·(first|exact trivial|((try dsimp only);simp [go_sem, *]))
  clear hK K hQ3
  try simp only [pS]
  refine tk 15 (some 40) (.bool false) ?_
  try simp only [pS]
  refine wpAnyH_done (by kernel_rfl) ?_ _
  go_wp2_with fail
  (refine(hB.out _).mono ?_;rintro e w8 ⟨rfl,hg8⟩;(try (with_reducible replace hg8:=Gr.of_drew hg8));have hsz8:=hg8.size;(try simp at hsz8);have hy8_0:kb<w8.heap.size:=(by omega);have hy8_1:w.heap.size+1<w8.heap.size:=(by omega);obtain ⟨hc8,hf8⟩:=hg8.cells;have HG8:=Lib.hid hg8;clear hg8)
  go_upto_region 8 with fail
  have HM3:=Lib.hid (show VB ((w8.alloc (.cells #[.int .u64 (lowN (sz M0.num)),.string (bigS (sz M0.num)),.bool (ng M0.num),.int .u64 (lowN (fm M0)),.string (bigS (fm M0)),.int .u64 (lowN (sz M1.num)),.string (bigS (sz M1.num)),.bool (ng M1.num),.int .u64 (lowN (fm M1)),.string (bigS (fm M1)),.int .u64 (lowN (sz M2.num)),.string (bigS (sz M2.num)),.bool (ng M2.num),.int .u64 (lowN (fm M2)),.string (bigS (fm M2))] 35)).alloc (.cells #[.int .u64 (lowN (sz M2.num)),.string (bigS (sz M2.num)),.bool (ng M2.num),.int .u64 (lowN (fm M2)),.string (bigS (fm M2)),.int .u64 (lowN (sz M1.num)),.string (bigS (sz M1.num)),.bool (ng M1.num),.int .u64 (lowN (fm M1)),.string (bigS (fm M1)),.int .u64 (lowN (sz M0.num)),.string (bigS (sz M0.num)),.bool (ng M0.num),.int .u64 (lowN (fm M0)),.string (bigS (fm M0))] 35)) w8.heap.size [.int .u64 (lowN (sz M0.num)),.string (bigS (sz M0.num)),.bool (ng M0.num),.int .u64 (lowN (fm M0)),.string (bigS (fm M0)),.int .u64 (lowN (sz M1.num)),.string (bigS (sz M1.num)),.bool (ng M1.num),.int .u64 (lowN (fm M1)),.string (bigS (fm M1)),.int .u64 (lowN (sz M2.num)),.string (bigS (sz M2.num)),.bool (ng M2.num),.int .u64 (lowN (fm M2)),.string (bigS (fm M2))]from by(with_reducible (repeat' (first|(refine VB.new' ?_;exact(by first|omega|(simp;done)|(simp;omega)))|apply VB.put2|apply VB.put3|apply VB.put5|refine VB.drew ?_|refine VB.far ?_ ?_ _|refine VB.alloc ?_ _|omega|(simp;done)|(simp;omega)))))
  have HT3:=Lib.hid (show VB ((w8.alloc (.cells #[.int .u64 (lowN (sz M0.num)),.string (bigS (sz M0.num)),.bool (ng M0.num),.int .u64 (lowN (fm M0)),.string (bigS (fm M0)),.int .u64 (lowN (sz M1.num)),.string (bigS (sz M1.num)),.bool (ng M1.num),.int .u64 (lowN (fm M1)),.string (bigS (fm M1)),.int .u64 (lowN (sz M2.num)),.string (bigS (sz M2.num)),.bool (ng M2.num),.int .u64 (lowN (fm M2)),.string (bigS (fm M2))] 35)).alloc (.cells #[.int .u64 (lowN (sz M2.num)),.string (bigS (sz M2.num)),.bool (ng M2.num),.int .u64 (lowN (fm M2)),.string (bigS (fm M2)),.int .u64 (lowN (sz M1.num)),.string (bigS (sz M1.num)),.bool (ng M1.num),.int .u64 (lowN (fm M1)),.string (bigS (fm M1)),.int .u64 (lowN (sz M0.num)),.string (bigS (sz M0.num)),.bool (ng M0.num),.int .u64 (lowN (fm M0)),.string (bigS (fm M0))] 35)) (w8.heap.size+1) [.int .u64 (lowN (sz M2.num)),.string (bigS (sz M2.num)),.bool (ng M2.num),.int .u64 (lowN (fm M2)),.string (bigS (fm M2)),.int .u64 (lowN (sz M1.num)),.string (bigS (sz M1.num)),.bool (ng M1.num),.int .u64 (lowN (fm M1)),.string (bigS (fm M1)),.int .u64 (lowN (sz M0.num)),.string (bigS (sz M0.num)),.bool (ng M0.num),.int .u64 (lowN (fm M0)),.string (bigS (fm M0))]from by(with_reducible (repeat' (first|(refine VB.new' ?_;exact(by first|omega|(simp;done)|(simp;omega)))|apply VB.put2|apply VB.put3|apply VB.put5|refine VB.drew ?_|refine VB.far ?_ ?_ _|refine VB.alloc ?_ _|omega|(simp;done)|(simp;omega)))))
  have HK3:=Lib.hid (show VB ((w8.alloc (.cells #[.int .u64 (lowN (sz M0.num)),.string (bigS (sz M0.num)),.bool (ng M0.num),.int .u64 (lowN (fm M0)),.string (bigS (fm M0)),.int .u64 (lowN (sz M1.num)),.string (bigS (sz M1.num)),.bool (ng M1.num),.int .u64 (lowN (fm M1)),.string (bigS (fm M1)),.int .u64 (lowN (sz M2.num)),.string (bigS (sz M2.num)),.bool (ng M2.num),.int .u64 (lowN (fm M2)),.string (bigS (fm M2))] 35)).alloc (.cells #[.int .u64 (lowN (sz M2.num)),.string (bigS (sz M2.num)),.bool (ng M2.num),.int .u64 (lowN (fm M2)),.string (bigS (fm M2)),.int .u64 (lowN (sz M1.num)),.string (bigS (sz M1.num)),.bool (ng M1.num),.int .u64 (lowN (fm M1)),.string (bigS (fm M1)),.int .u64 (lowN (sz M0.num)),.string (bigS (sz M0.num)),.bool (ng M0.num),.int .u64 (lowN (fm M0)),.string (bigS (fm M0))] 35)) kb [.int .u64 (lowN (sz K0.num)),.string (bigS (sz K0.num)),.bool (ng K0.num),.int .u64 (lowN (fm K0)),.string (bigS (fm K0)),.int .u64 (lowN (sz K1.num)),.string (bigS (sz K1.num)),.bool (ng K1.num),.int .u64 (lowN (fm K1)),.string (bigS (fm K1)),.int .u64 (lowN (sz K2.num)),.string (bigS (sz K2.num)),.bool (ng K2.num),.int .u64 (lowN (fm K2)),.string (bigS (fm K2))]from by(with_reducible (repeat' (first|(refine VB.new' ?_;exact(by first|omega|(simp;done)|(simp;omega)))|apply VB.put2|apply VB.put3|apply VB.put5|refine VB.drew ?_|refine VB.far ?_ ?_ _|refine VB.alloc ?_ _|exact HK2.out|refine VB.gr ?_ HG8.out ?_|refine VB.gr ?_ HG7.out ?_|refine VB.gr ?_ HG6.out ?_|refine VB.gr ?_ HG5.out ?_|refine VB.gr ?_ HG4.out ?_|omega|(simp;done)|(simp;omega)))))
  have HG3:=Lib.hid (show Gr w.heap.size w ((w8.alloc (.cells #[.int .u64 (lowN (sz M0.num)),.string (bigS (sz M0.num)),.bool (ng M0.num),.int .u64 (lowN (fm M0)),.string (bigS (fm M0)),.int .u64 (lowN (sz M1.num)),.string (bigS (sz M1.num)),.bool (ng M1.num),.int .u64 (lowN (fm M1)),.string (bigS (fm M1)),.int .u64 (lowN (sz M2.num)),.string (bigS (sz M2.num)),.bool (ng M2.num),.int .u64 (lowN (fm M2)),.string (bigS (fm M2))] 35)).alloc (.cells #[.int .u64 (lowN (sz M2.num)),.string (bigS (sz M2.num)),.bool (ng M2.num),.int .u64 (lowN (fm M2)),.string (bigS (fm M2)),.int .u64 (lowN (sz M1.num)),.string (bigS (sz M1.num)),.bool (ng M1.num),.int .u64 (lowN (fm M1)),.string (bigS (fm M1)),.int .u64 (lowN (sz M0.num)),.string (bigS (sz M0.num)),.bool (ng M0.num),.int .u64 (lowN (fm M0)),.string (bigS (fm M0))] 35))from by(with_reducible (repeat' (first|exact Gr.refl _ _|refine Gr.drew ?_|refine Gr.setCell ?_ ?_ _|refine Gr.alloc ?_ ?_ _|refine Gr.trans ?_ (Gr.mono HG8.out ?_)|refine Gr.trans ?_ (Gr.mono HG7.out ?_)|refine Gr.trans ?_ (Gr.mono HG6.out ?_)|refine Gr.trans ?_ (Gr.mono HG5.out ?_)|refine Gr.trans ?_ (Gr.mono HG4.out ?_)|refine Gr.trans ?_ (Gr.mono HG2.out ?_)|omega|(simp;done)|(simp;omega)))))
  have hs9:w8.heap.size+1<((w8.alloc (.cells #[.int .u64 (lowN (sz M0.num)),.string (bigS (sz M0.num)),.bool (ng M0.num),.int .u64 (lowN (fm M0)),.string (bigS (fm M0)),.int .u64 (lowN (sz M1.num)),.string (bigS (sz M1.num)),.bool (ng M1.num),.int .u64 (lowN (fm M1)),.string (bigS (fm M1)),.int .u64 (lowN (sz M2.num)),.string (bigS (sz M2.num)),.bool (ng M2.num),.int .u64 (lowN (fm M2)),.string (bigS (fm M2))] 35)).alloc (.cells #[.int .u64 (lowN (sz M2.num)),.string (bigS (sz M2.num)),.bool (ng M2.num),.int .u64 (lowN (fm M2)),.string (bigS (fm M2)),.int .u64 (lowN (sz M1.num)),.string (bigS (sz M1.num)),.bool (ng M1.num),.int .u64 (lowN (fm M1)),.string (bigS (fm M1)),.int .u64 (lowN (sz M0.num)),.string (bigS (sz M0.num)),.bool (ng M0.num),.int .u64 (lowN (fm M0)),.string (bigS (fm M0))] 35)).heap.size:=by simp
  have hkb:kb<w8.heap.size:=by omega
  have hwb:w.heap.size≤w8.heap.size:=by omega
  clear HG8 HG7 HG6 HG5 HG4 HG2 HK2 HP2 hc4 hf4 hc5 hf5 hc6 hf6 hc7 hf7 hc8 hf8 k0 k1 k2 k3 k4 k5 k6 k7 k8 k9 k10 k11 k12 k13 k14 p0 p1 p2 p3 p4 p5
  try clear hsz4
  try clear hsz5
  try clear hsz6
  try clear hsz7
  try clear hsz8
  try clear hy4_0
  try clear hy5_0
  try clear hy6_0
  try clear hy7_0
  try clear hy8_0
  try clear hy4_1
  try clear hy5_1
  try clear hy6_1
  try clear hy7_1
  try clear hy8_1
  generalize (w8.alloc (.cells #[.int .u64 (lowN (sz M0.num)),.string (bigS (sz M0.num)),.bool (ng M0.num),.int .u64 (lowN (fm M0)),.string (bigS (fm M0)),.int .u64 (lowN (sz M1.num)),.string (bigS (sz M1.num)),.bool (ng M1.num),.int .u64 (lowN (fm M1)),.string (bigS (fm M1)),.int .u64 (lowN (sz M2.num)),.string (bigS (sz M2.num)),.bool (ng M2.num),.int .u64 (lowN (fm M2)),.string (bigS (fm M2))] 35)).alloc (.cells #[.int .u64 (lowN (sz M2.num)),.string (bigS (sz M2.num)),.bool (ng M2.num),.int .u64 (lowN (fm M2)),.string (bigS (fm M2)),.int .u64 (lowN (sz M1.num)),.string (bigS (sz M1.num)),.bool (ng M1.num),.int .u64 (lowN (fm M1)),.string (bigS (fm M1)),.int .u64 (lowN (sz M0.num)),.string (bigS (sz M0.num)),.bool (ng M0.num),.int .u64 (lowN (fm M0)),.string (bigS (fm M0))] 35)=wm at *
  generalize w8.heap.size=mb at *
  have hm1:mb<wm.heap.size:=by omega
  have hm2:mb+1<wm.heap.size:=by omega
  have hm3:kb<wm.heap.size:=by omega
  have m0:=HM3.out.c 0 _ rfl
  have m1:=HM3.out.c 1 _ rfl
  have m2:=HM3.out.c 2 _ rfl
  have m3:=HM3.out.c 3 _ rfl
  have m4:=HM3.out.c 4 _ rfl
  have m5:=HM3.out.c 5 _ rfl
  have m6:=HM3.out.c 6 _ rfl
  have m7:=HM3.out.c 7 _ rfl
  have m8:=HM3.out.c 8 _ rfl
  have m9:=HM3.out.c 9 _ rfl
  have m10:=HM3.out.c 10 _ rfl
  have m11:=HM3.out.c 11 _ rfl
  have m12:=HM3.out.c 12 _ rfl
  have m13:=HM3.out.c 13 _ rfl
  have m14:=HM3.out.c 14 _ rfl
  have t0:=HT3.out.c 0 _ rfl
  have t1:=HT3.out.c 1 _ rfl
  have t2:=HT3.out.c 2 _ rfl
  have t3:=HT3.out.c 3 _ rfl
  have t4:=HT3.out.c 4 _ rfl
  have t5:=HT3.out.c 5 _ rfl
  have t6:=HT3.out.c 6 _ rfl
  have t7:=HT3.out.c 7 _ rfl
  have t8:=HT3.out.c 8 _ rfl
  have t9:=HT3.out.c 9 _ rfl
  have t10:=HT3.out.c 10 _ rfl
  have t11:=HT3.out.c 11 _ rfl
  have t12:=HT3.out.c 12 _ rfl
  have t13:=HT3.out.c 13 _ rfl
  have t14:=HT3.out.c 14 _ rfl
  have k0:=HK3.out.c 0 _ rfl
  have k1:=HK3.out.c 1 _ rfl
  have k2:=HK3.out.c 2 _ rfl
  have k3:=HK3.out.c 3 _ rfl
  have k4:=HK3.out.c 4 _ rfl
  have k5:=HK3.out.c 5 _ rfl
  have k6:=HK3.out.c 6 _ rfl
  have k7:=HK3.out.c 7 _ rfl
  have k8:=HK3.out.c 8 _ rfl
  have k9:=HK3.out.c 9 _ rfl
  have k10:=HK3.out.c 10 _ rfl
  have k11:=HK3.out.c 11 _ rfl
  have k12:=HK3.out.c 12 _ rfl
  have k13:=HK3.out.c 13 _ rfl
  have k14:=HK3.out.c 14 _ rfl
  refine wp_region_held_drew (S:=(fun w'=>w'.cell? ⟨mb,0,none⟩=some (.int .u64 (lowN (sz M0.num)))∧w'.cell? ⟨mb,1,none⟩=some (.string (bigS (sz M0.num)))∧w'.cell? ⟨mb,2,none⟩=some (.bool (ng M0.num))∧w'.cell? ⟨mb,3,none⟩=some (.int .u64 (lowN (fm M0)))∧w'.cell? ⟨mb,4,none⟩=some (.string (bigS (fm M0)))∧w'.cell? ⟨mb,5,none⟩=some (.int .u64 (lowN (sz M1.num)))∧w'.cell? ⟨mb,6,none⟩=some (.string (bigS (sz M1.num)))∧w'.cell? ⟨mb,7,none⟩=some (.bool (ng M1.num))∧w'.cell? ⟨mb,8,none⟩=some (.int .u64 (lowN (fm M1)))∧w'.cell? ⟨mb,9,none⟩=some (.string (bigS (fm M1)))∧w'.cell? ⟨mb,10,none⟩=some (.int .u64 (lowN (sz M2.num)))∧w'.cell? ⟨mb,11,none⟩=some (.string (bigS (sz M2.num)))∧w'.cell? ⟨mb,12,none⟩=some (.bool (ng M2.num))∧w'.cell? ⟨mb,13,none⟩=some (.int .u64 (lowN (fm M2)))∧w'.cell? ⟨mb,14,none⟩=some (.string (bigS (fm M2)))∧w'.cell? ⟨mb+1,0,none⟩=some (.int .u64 (lowN (sz M2.num)))∧w'.cell? ⟨mb+1,1,none⟩=some (.string (bigS (sz M2.num)))∧w'.cell? ⟨mb+1,2,none⟩=some (.bool (ng M2.num))∧w'.cell? ⟨mb+1,3,none⟩=some (.int .u64 (lowN (fm M2)))∧w'.cell? ⟨mb+1,4,none⟩=some (.string (bigS (fm M2)))∧w'.cell? ⟨mb+1,5,none⟩=some (.int .u64 (lowN (sz M1.num)))∧w'.cell? ⟨mb+1,6,none⟩=some (.string (bigS (sz M1.num)))∧w'.cell? ⟨mb+1,7,none⟩=some (.bool (ng M1.num))∧w'.cell? ⟨mb+1,8,none⟩=some (.int .u64 (lowN (fm M1)))∧w'.cell? ⟨mb+1,9,none⟩=some (.string (bigS (fm M1)))∧w'.cell? ⟨mb+1,10,none⟩=some (.int .u64 (lowN (sz M0.num)))∧w'.cell? ⟨mb+1,11,none⟩=some (.string (bigS (sz M0.num)))∧w'.cell? ⟨mb+1,12,none⟩=some (.bool (ng M0.num))∧w'.cell? ⟨mb+1,13,none⟩=some (.int .u64 (lowN (fm M0)))∧w'.cell? ⟨mb+1,14,none⟩=some (.string (bigS (fm M0)))∧w'.cell? ⟨kb,0,none⟩=some (.int .u64 (lowN (sz K0.num)))∧w'.cell? ⟨kb,1,none⟩=some (.string (bigS (sz K0.num)))∧w'.cell? ⟨kb,2,none⟩=some (.bool (ng K0.num))∧w'.cell? ⟨kb,3,none⟩=some (.int .u64 (lowN (fm K0)))∧w'.cell? ⟨kb,4,none⟩=some (.string (bigS (fm K0)))∧w'.cell? ⟨kb,5,none⟩=some (.int .u64 (lowN (sz K1.num)))∧w'.cell? ⟨kb,6,none⟩=some (.string (bigS (sz K1.num)))∧w'.cell? ⟨kb,7,none⟩=some (.bool (ng K1.num))∧w'.cell? ⟨kb,8,none⟩=some (.int .u64 (lowN (fm K1)))∧w'.cell? ⟨kb,9,none⟩=some (.string (bigS (fm K1)))∧w'.cell? ⟨kb,10,none⟩=some (.int .u64 (lowN (sz K2.num)))∧w'.cell? ⟨kb,11,none⟩=some (.string (bigS (sz K2.num)))∧w'.cell? ⟨kb,12,none⟩=some (.bool (ng K2.num))∧w'.cell? ⟨kb,13,none⟩=some (.int .u64 (lowN (fm K2)))∧w'.cell? ⟨kb,14,none⟩=some (.string (bigS (fm K2))))) (by kernel_rfl) ?_ (fun hHeld=>?_)
  ·simp [go_sem, *]
  refine tk 0 (some 50) (.agg #[.int .u64 (lowN (sz M0.num)),.string (bigS (sz M0.num)),.bool (ng M0.num),.int .u64 (lowN (fm M0)),.string (bigS (fm M0)),.int .u64 (lowN (sz M1.num)),.string (bigS (sz M1.num)),.bool (ng M1.num),.int .u64 (lowN (fm M1)),.string (bigS (fm M1)),.int .u64 (lowN (sz M2.num)),.string (bigS (sz M2.num)),.bool (ng M2.num),.int .u64 (lowN (fm M2)),.string (bigS (fm M2))]) ?_
  try simp only [pS]
  refine tk 2 (some 52) (.agg #[.int .u64 (lowN (sz M2.num)),.string (bigS (sz M2.num)),.bool (ng M2.num),.int .u64 (lowN (fm M2)),.string (bigS (fm M2)),.int .u64 (lowN (sz M1.num)),.string (bigS (sz M1.num)),.bool (ng M1.num),.int .u64 (lowN (fm M1)),.string (bigS (fm M1)),.int .u64 (lowN (sz M0.num)),.string (bigS (sz M0.num)),.bool (ng M0.num),.int .u64 (lowN (fm M0)),.string (bigS (fm M0))]) ?_
  try simp only [pS]
  refine rd 1 (fun K hK=>?_)
  go_simp
  (refine(hDm.out _).mono ?_;rintro e w9 ⟨rfl,hg9⟩;(try (with_reducible replace hg9:=Gr.of_drew hg9));have hsz9:=hg9.size;(try simp at hsz9);have hy9_0:kb<w9.heap.size:=(by omega);have hy9_1:mb<w9.heap.size:=(by omega);have hy9_2:mb+1<w9.heap.size:=(by omega);obtain ⟨hc9,hf9⟩:=hg9.cells;have HG9:=Lib.hid hg9;clear hg9)
  (try dsimp only)
  refine hK.out _ _ ?_ (fun hQ1=>?_)
  ·(first|exact trivial|((try dsimp only);simp [go_sem, *]))
  clear hK K hHeld
  try simp only [pS]
  refine rd 3 (fun K hK=>?_)
  go_simp
  (refine(hDt.out _).mono ?_;rintro e w10 ⟨rfl,hg10⟩;(try (with_reducible replace hg10:=Gr.of_drew hg10));have hsz10:=hg10.size;(try simp at hsz10);have hy10_0:kb<w10.heap.size:=(by omega);have hy10_1:mb<w10.heap.size:=(by omega);have hy10_2:mb+1<w10.heap.size:=(by omega);obtain ⟨hc10,hf10⟩:=hg10.cells;have HG10:=Lib.hid hg10;clear hg10)
  (try dsimp only)
  refine hK.out _ _ ?_ (fun hQ2=>?_)
  ·(first|exact trivial|((try dsimp only);simp [go_sem, *]))
  clear hK K hQ1
  try simp only [pS]
  refine tk 4 (some 54) (.bool false) ?_
  try simp only [pS]
  refine wpAnyH_done (by kernel_rfl) ?_ _
  go_upto_region 10 with fail
  have HM4:=Lib.hid (show VB w10 mb [.int .u64 (lowN (sz M0.num)),.string (bigS (sz M0.num)),.bool (ng M0.num),.int .u64 (lowN (fm M0)),.string (bigS (fm M0)),.int .u64 (lowN (sz M1.num)),.string (bigS (sz M1.num)),.bool (ng M1.num),.int .u64 (lowN (fm M1)),.string (bigS (fm M1)),.int .u64 (lowN (sz M2.num)),.string (bigS (sz M2.num)),.bool (ng M2.num),.int .u64 (lowN (fm M2)),.string (bigS (fm M2))]from by(with_reducible (repeat' (first|(refine VB.new' ?_;exact(by first|omega|(simp;done)|(simp;omega)))|apply VB.put2|apply VB.put3|apply VB.put5|refine VB.drew ?_|refine VB.far ?_ ?_ _|refine VB.alloc ?_ _|exact HM3.out|refine VB.gr ?_ HG10.out ?_|refine VB.gr ?_ HG9.out ?_|omega|(simp;done)|(simp;omega)))))
  have HK4:=Lib.hid (show VB w10 kb [.int .u64 (lowN (sz K0.num)),.string (bigS (sz K0.num)),.bool (ng K0.num),.int .u64 (lowN (fm K0)),.string (bigS (fm K0)),.int .u64 (lowN (sz K1.num)),.string (bigS (sz K1.num)),.bool (ng K1.num),.int .u64 (lowN (fm K1)),.string (bigS (fm K1)),.int .u64 (lowN (sz K2.num)),.string (bigS (sz K2.num)),.bool (ng K2.num),.int .u64 (lowN (fm K2)),.string (bigS (fm K2))]from by(with_reducible (repeat' (first|(refine VB.new' ?_;exact(by first|omega|(simp;done)|(simp;omega)))|apply VB.put2|apply VB.put3|apply VB.put5|refine VB.drew ?_|refine VB.far ?_ ?_ _|refine VB.alloc ?_ _|exact HK3.out|refine VB.gr ?_ HG10.out ?_|refine VB.gr ?_ HG9.out ?_|omega|(simp;done)|(simp;omega)))))
  have HG4:=Lib.hid (show Gr w.heap.size w w10 from by(with_reducible (repeat' (first|exact Gr.refl _ _|refine Gr.drew ?_|refine Gr.setCell ?_ ?_ _|refine Gr.alloc ?_ ?_ _|refine Gr.trans ?_ (Gr.mono HG10.out ?_)|refine Gr.trans ?_ (Gr.mono HG9.out ?_)|refine Gr.trans ?_ (Gr.mono HG3.out ?_)|omega|(simp;done)|(simp;omega)))))
  clear HM3 HT3 HK3 HG3 HG10 HG9 hc9 hf9 hc10 hf10 hQ2 m0 t0 k0 m1 t1 k1 m2 t2 k2 m3 t3 k3 m4 t4 k4 m5 t5 k5 m6 t6 k6 m7 t7 k7 m8 t8 k8 m9 t9 k9 m10 t10 k10 m11 t11 k11 m12 t12 k12 m13 t13 k13 m14 t14 k14
  have hkb':=HK4.out.lt
  have hmb':=HM4.out.lt
  have m0:=HM4.out.c 0 _ rfl
  have m1:=HM4.out.c 1 _ rfl
  have m2:=HM4.out.c 2 _ rfl
  have m3:=HM4.out.c 3 _ rfl
  have m4:=HM4.out.c 4 _ rfl
  have m5:=HM4.out.c 5 _ rfl
  have m6:=HM4.out.c 6 _ rfl
  have m7:=HM4.out.c 7 _ rfl
  have m8:=HM4.out.c 8 _ rfl
  have m9:=HM4.out.c 9 _ rfl
  have m10:=HM4.out.c 10 _ rfl
  have m11:=HM4.out.c 11 _ rfl
  have m12:=HM4.out.c 12 _ rfl
  have m13:=HM4.out.c 13 _ rfl
  have m14:=HM4.out.c 14 _ rfl
  have k0:=HK4.out.c 0 _ rfl
  have k1:=HK4.out.c 1 _ rfl
  have k2:=HK4.out.c 2 _ rfl
  have k3:=HK4.out.c 3 _ rfl
  have k4:=HK4.out.c 4 _ rfl
  have k5:=HK4.out.c 5 _ rfl
  have k6:=HK4.out.c 6 _ rfl
  have k7:=HK4.out.c 7 _ rfl
  have k8:=HK4.out.c 8 _ rfl
  have k9:=HK4.out.c 9 _ rfl
  have k10:=HK4.out.c 10 _ rfl
  have k11:=HK4.out.c 11 _ rfl
  have k12:=HK4.out.c 12 _ rfl
  have k13:=HK4.out.c 13 _ rfl
  have k14:=HK4.out.c 14 _ rfl
  go_cut [10] (fun x wx=> ∃g,x= .pointer (some ⟨g,0,none⟩)∧LawS w wx g mb M0 M1 M2 S0 S1 S2)
  case first=>
   refine wp_region_held_drew (S:=(fun w'=>w'.cell? ⟨kb,0,none⟩=some (.int .u64 (lowN (sz K0.num)))∧w'.cell? ⟨kb,1,none⟩=some (.string (bigS (sz K0.num)))∧w'.cell? ⟨kb,2,none⟩=some (.bool (ng K0.num))∧w'.cell? ⟨kb,3,none⟩=some (.int .u64 (lowN (fm K0)))∧w'.cell? ⟨kb,4,none⟩=some (.string (bigS (fm K0)))∧w'.cell? ⟨kb,5,none⟩=some (.int .u64 (lowN (sz K1.num)))∧w'.cell? ⟨kb,6,none⟩=some (.string (bigS (sz K1.num)))∧w'.cell? ⟨kb,7,none⟩=some (.bool (ng K1.num))∧w'.cell? ⟨kb,8,none⟩=some (.int .u64 (lowN (fm K1)))∧w'.cell? ⟨kb,9,none⟩=some (.string (bigS (fm K1)))∧w'.cell? ⟨kb,10,none⟩=some (.int .u64 (lowN (sz K2.num)))∧w'.cell? ⟨kb,11,none⟩=some (.string (bigS (sz K2.num)))∧w'.cell? ⟨kb,12,none⟩=some (.bool (ng K2.num))∧w'.cell? ⟨kb,13,none⟩=some (.int .u64 (lowN (fm K2)))∧w'.cell? ⟨kb,14,none⟩=some (.string (bigS (fm K2)))∧w'.cell? ⟨mb,0,none⟩=some (.int .u64 (lowN (sz M0.num)))∧w'.cell? ⟨mb,1,none⟩=some (.string (bigS (sz M0.num)))∧w'.cell? ⟨mb,2,none⟩=some (.bool (ng M0.num))∧w'.cell? ⟨mb,3,none⟩=some (.int .u64 (lowN (fm M0)))∧w'.cell? ⟨mb,4,none⟩=some (.string (bigS (fm M0)))∧w'.cell? ⟨mb,5,none⟩=some (.int .u64 (lowN (sz M1.num)))∧w'.cell? ⟨mb,6,none⟩=some (.string (bigS (sz M1.num)))∧w'.cell? ⟨mb,7,none⟩=some (.bool (ng M1.num))∧w'.cell? ⟨mb,8,none⟩=some (.int .u64 (lowN (fm M1)))∧w'.cell? ⟨mb,9,none⟩=some (.string (bigS (fm M1)))∧w'.cell? ⟨mb,10,none⟩=some (.int .u64 (lowN (sz M2.num)))∧w'.cell? ⟨mb,11,none⟩=some (.string (bigS (sz M2.num)))∧w'.cell? ⟨mb,12,none⟩=some (.bool (ng M2.num))∧w'.cell? ⟨mb,13,none⟩=some (.int .u64 (lowN (fm M2)))∧w'.cell? ⟨mb,14,none⟩=some (.string (bigS (fm M2))))) (by kernel_rfl) ?_ (fun hHeld=>?_)
   ·simp [go_sem, *]
   refine tk 0 (some 55) (.pointer (some ⟨kb,0,none⟩)) ?_
   try simp only [pS]
   refine tk 1 (some 56) (.agg #[.int .u64 (lowN (sz K0.num)),.string (bigS (sz K0.num)),.bool (ng K0.num),.int .u64 (lowN (fm K0)),.string (bigS (fm K0))]) ?_
   try simp only [pS]
   refine tk 2 (some 57) (.pointer (some ⟨mb,0,none⟩)) ?_
   try simp only [pS]
   refine tk 3 (some 58) (.agg #[.int .u64 (lowN (sz M0.num)),.string (bigS (sz M0.num)),.bool (ng M0.num),.int .u64 (lowN (fm M0)),.string (bigS (fm M0))]) ?_
   try simp only [pS]
   refine tk 5 (some 60) (.pointer (some ⟨kb,5,none⟩)) ?_
   try simp only [pS]
   refine tk 6 (some 61) (.agg #[.int .u64 (lowN (sz K1.num)),.string (bigS (sz K1.num)),.bool (ng K1.num),.int .u64 (lowN (fm K1)),.string (bigS (fm K1))]) ?_
   try simp only [pS]
   refine tk 7 (some 62) (.pointer (some ⟨mb,5,none⟩)) ?_
   try simp only [pS]
   refine tk 8 (some 63) (.agg #[.int .u64 (lowN (sz M1.num)),.string (bigS (sz M1.num)),.bool (ng M1.num),.int .u64 (lowN (fm M1)),.string (bigS (fm M1))]) ?_
   try simp only [pS]
   refine tk 10 (some 65) (.pointer (some ⟨kb,10,none⟩)) ?_
   try simp only [pS]
   refine tk 11 (some 66) (.agg #[.int .u64 (lowN (sz K2.num)),.string (bigS (sz K2.num)),.bool (ng K2.num),.int .u64 (lowN (fm K2)),.string (bigS (fm K2))]) ?_
   try simp only [pS]
   refine tk 12 (some 67) (.pointer (some ⟨mb,10,none⟩)) ?_
   try simp only [pS]
   refine tk 13 (some 68) (.agg #[.int .u64 (lowN (sz M2.num)),.string (bigS (sz M2.num)),.bool (ng M2.num),.int .u64 (lowN (fm M2)),.string (bigS (fm M2))]) ?_
   try simp only [pS]
   refine wpAnyH_ready (rs:= [4,16]) (by kernel_rfl) (by simp) ?_
   refine AllReadyH.cons rfl (fun K hK=>?_) (AllReadyH.cons rfl (fun K hK=>?_) AllReadyH.nil)
   ·go_simp
    (refine(hA0.out _).mono ?_;rintro e w11 ⟨rfl,hg11⟩;(try (with_reducible replace hg11:=Gr.of_drew hg11));have hsz11:=hg11.size;(try simp at hsz11);have hy11_0:kb<w11.heap.size:=(by omega);have hy11_1:mb<w11.heap.size:=(by omega);obtain ⟨hc11,hf11⟩:=hg11.cells;have HG11:=Lib.hid hg11;clear hg11)
    (try dsimp only)
    refine hK.out _ _ ?_ (fun hQ1=>?_)
    ·(first|exact trivial|((try dsimp only);simp [go_sem, *]))
    clear hK K hHeld
    try simp only [pS]
    refine wpAnyH_ready (rs:= [9,16]) (by kernel_rfl) (by simp) ?_
    refine AllReadyH.cons rfl (fun K hK=>?_) (AllReadyH.cons rfl (fun K hK=>?_) AllReadyH.nil)
    ·go_simp
     (refine(hA1.out _).mono ?_;rintro e w12 ⟨rfl,hg12⟩;(try (with_reducible replace hg12:=Gr.of_drew hg12));have hsz12:=hg12.size;(try simp at hsz12);have hy12_0:kb<w12.heap.size:=(by omega);have hy12_1:mb<w12.heap.size:=(by omega);obtain ⟨hc12,hf12⟩:=hg12.cells;have HG12:=Lib.hid hg12;clear hg12)
     (try dsimp only)
     refine hK.out _ _ ?_ (fun hQ2=>?_)
     ·(first|exact trivial|((try dsimp only);simp [go_sem, *]))
     clear hK K hQ1
     try simp only [pS]
     refine wpAnyH_ready (rs:= [14,16]) (by kernel_rfl) (by simp) ?_
     refine AllReadyH.cons rfl (fun K hK=>?_) (AllReadyH.cons rfl (fun K hK=>?_) AllReadyH.nil)
     ·go_simp
      (refine(hA2.out _).mono ?_;rintro e w13 ⟨rfl,hg13⟩;(try (with_reducible replace hg13:=Gr.of_drew hg13));have hsz13:=hg13.size;(try simp at hsz13);have hy13_0:kb<w13.heap.size:=(by omega);have hy13_1:mb<w13.heap.size:=(by omega);obtain ⟨hc13,hf13⟩:=hg13.cells;have HG13:=Lib.hid hg13;clear hg13)
      (try dsimp only)
      refine hK.out _ _ ?_ (fun hQ3=>?_)
      ·(first|exact trivial|((try dsimp only);simp [go_sem, *]))
      clear hK K hQ2
      try simp only [pS]
      refine tk 15 (some 70) (.agg #[.int .u64 (lowN (sz S0.num)),.string (bigS (sz S0.num)),.bool (ng S0.num),.int .u64 (lowN (fm S0)),.string (bigS (fm S0)),.int .u64 (lowN (sz S1.num)),.string (bigS (sz S1.num)),.bool (ng S1.num),.int .u64 (lowN (fm S1)),.string (bigS (fm S1)),.int .u64 (lowN (sz S2.num)),.string (bigS (sz S2.num)),.bool (ng S2.num),.int .u64 (lowN (fm S2)),.string (bigS (fm S2))]) ?_
      try simp only [pS]
      refine wpAnyH_ready (rs:= [16]) (by kernel_rfl) (by simp) ?_
      refine AllReadyH.cons rfl (fun K hK=>?_) AllReadyH.nil
      go_simp
      have ha4_0:kb<w13.heap.size+1:=(by omega)
      have ha4_1:mb<w13.heap.size+1:=(by omega)
      have ha4_2:w13.heap.size<w13.heap.size+1:=(by omega)
      (try dsimp only)
      refine hK.out _ _ ?_ (fun hQ4=>?_)
      ·(first|exact trivial|((try dsimp only);simp [go_sem, *]))
      clear hK K hQ3
      try simp only [pS]
      refine wpAnyH_ready (rs:= [17]) (by kernel_rfl) (by simp) ?_
      refine AllReadyH.cons (o:=⟨none,_,_,_,_,_⟩) rfl (fun K hK=>?_) AllReadyH.nil
      rw [if_pos (by rfl)]
      refine wp_store_mid 35 _ _ rfl (w13.heap.size) 0 (List.toArray [.int .u64 (lowN (sz S0.num)),.string (bigS (sz S0.num)),.bool (ng S0.num),.int .u64 (lowN (fm S0)),.string (bigS (fm S0)),.int .u64 (lowN (sz S1.num)),.string (bigS (sz S1.num)),.bool (ng S1.num),.int .u64 (lowN (fm S1)),.string (bigS (fm S1)),.int .u64 (lowN (sz S2.num)),.string (bigS (sz S2.num)),.bool (ng S2.num),.int .u64 (lowN (fm S2)),.string (bigS (fm S2))]) rfl rfl (VB.there (cs:= [.int .u64 0,.string ⟨#[]⟩,.bool false,.int .u64 0,.string ⟨#[]⟩,.int .u64 0,.string ⟨#[]⟩,.bool false,.int .u64 0,.string ⟨#[]⟩,.int .u64 0,.string ⟨#[]⟩,.bool false,.int .u64 0,.string ⟨#[]⟩]) ?_) info_F3 (by first|rfl|simp [Value.oneCell']) ?_
      ·(with_reducible (repeat' (first|(refine VB.new' ?_;exact(by first|omega|(simp;done)|(simp;omega)))|apply VB.put2|apply VB.put3|apply VB.put5|refine VB.drew ?_|refine VB.far ?_ ?_ _|refine VB.alloc ?_ _|refine VB.gr ?_ HG13.out ?_|refine VB.gr ?_ HG12.out ?_|refine VB.gr ?_ HG11.out ?_|omega|(simp;done)|(simp;omega))))
      simp only [pS]
      refine hK.out _ _ ?_ (fun hQ5=>?_)
      ·have hh:=hQ4;(try dsimp only at hh ⊢);simp only [cell_sets_ne (show kb≠w13.heap.size by omega),cell_sets_ne (show mb≠w13.heap.size by omega)];exact hh
      clear hK K hQ4
      refine wpAnyH_done (by kernel_rfl) ?_ _
      go_wp2_with fail
      go_meet
      refine⟨w13.heap.size,rfl,⟨?_,?_,?_⟩⟩
      ·refine VB.set (cs:= [.int .u64 0,.string ⟨#[]⟩,.bool false,.int .u64 0,.string ⟨#[]⟩,.int .u64 0,.string ⟨#[]⟩,.bool false,.int .u64 0,.string ⟨#[]⟩,.int .u64 0,.string ⟨#[]⟩,.bool false,.int .u64 0,.string ⟨#[]⟩]) ?_ [.int .u64 (lowN (sz S0.num)),.string (bigS (sz S0.num)),.bool (ng S0.num),.int .u64 (lowN (fm S0)),.string (bigS (fm S0)),.int .u64 (lowN (sz S1.num)),.string (bigS (sz S1.num)),.bool (ng S1.num),.int .u64 (lowN (fm S1)),.string (bigS (fm S1)),.int .u64 (lowN (sz S2.num)),.string (bigS (sz S2.num)),.bool (ng S2.num),.int .u64 (lowN (fm S2)),.string (bigS (fm S2))] rfl
       (with_reducible (repeat' (first|(refine VB.new' ?_;exact(by first|omega|(simp;done)|(simp;omega)))|apply VB.put2|apply VB.put3|apply VB.put5|refine VB.drew ?_|refine VB.far ?_ ?_ _|refine VB.alloc ?_ _|refine VB.gr ?_ HG13.out ?_|refine VB.gr ?_ HG12.out ?_|refine VB.gr ?_ HG11.out ?_|omega|(simp;done)|(simp;omega))))
      ·refine VB.fars (by omega) _ _ ?_
       (with_reducible (repeat' (first|(refine VB.new' ?_;exact(by first|omega|(simp;done)|(simp;omega)))|apply VB.put2|apply VB.put3|apply VB.put5|refine VB.drew ?_|refine VB.far ?_ ?_ _|refine VB.alloc ?_ _|exact HM4.out|refine VB.gr ?_ HG13.out ?_|refine VB.gr ?_ HG12.out ?_|refine VB.gr ?_ HG11.out ?_|omega|(simp;done)|(simp;omega))))
      ·exact Gr.sets (by omega) _ _ (by(with_reducible (repeat' (first|exact Gr.refl _ _|refine Gr.drew ?_|refine Gr.setCell ?_ ?_ _|refine Gr.alloc ?_ ?_ _|refine Gr.trans ?_ (Gr.mono HG13.out ?_)|refine Gr.trans ?_ (Gr.mono HG12.out ?_)|refine Gr.trans ?_ (Gr.mono HG11.out ?_)|refine Gr.trans ?_ (Gr.mono HG4.out ?_)|omega|(simp;done)|(simp;omega)))))
     ·go_simp
      have ha3_0:kb<w12.heap.size+1:=(by omega)
      have ha3_1:mb<w12.heap.size+1:=(by omega)
      have ha3_2:w12.heap.size<w12.heap.size+1:=(by omega)
      (try dsimp only)
      refine hK.out _ _ ?_ (fun hQ3=>?_)
      ·(first|exact trivial|((try dsimp only);simp [go_sem, *]))
      clear hK K hQ2
      try simp only [pS]
      refine wpAnyH_ready (rs:= [14]) (by kernel_rfl) (by simp) ?_
      refine AllReadyH.cons rfl (fun K hK=>?_) AllReadyH.nil
      go_simp
      (refine(hA2.out _).mono ?_;rintro e w13 ⟨rfl,hg13⟩;(try (with_reducible replace hg13:=Gr.of_drew hg13));have hsz13:=hg13.size;(try simp at hsz13);have hy13_0:kb<w13.heap.size:=(by omega);have hy13_1:mb<w13.heap.size:=(by omega);have hy13_2:w12.heap.size<w13.heap.size:=(by omega);obtain ⟨hc13,hf13⟩:=hg13.cells;have HG13:=Lib.hid hg13;clear hg13)
      (try dsimp only)
      refine hK.out _ _ ?_ (fun hQ4=>?_)
      ·(first|exact trivial|((try dsimp only);simp [go_sem, *]))
      clear hK K hQ3
      try simp only [pS]
      refine tk 15 (some 70) (.agg #[.int .u64 (lowN (sz S0.num)),.string (bigS (sz S0.num)),.bool (ng S0.num),.int .u64 (lowN (fm S0)),.string (bigS (fm S0)),.int .u64 (lowN (sz S1.num)),.string (bigS (sz S1.num)),.bool (ng S1.num),.int .u64 (lowN (fm S1)),.string (bigS (fm S1)),.int .u64 (lowN (sz S2.num)),.string (bigS (sz S2.num)),.bool (ng S2.num),.int .u64 (lowN (fm S2)),.string (bigS (fm S2))]) ?_
      try simp only [pS]
      refine wpAnyH_ready (rs:= [17]) (by kernel_rfl) (by simp) ?_
      refine AllReadyH.cons (o:=⟨none,_,_,_,_,_⟩) rfl (fun K hK=>?_) AllReadyH.nil
      rw [if_pos (by rfl)]
      refine wp_store_mid 35 _ _ rfl (w12.heap.size) 0 (List.toArray [.int .u64 (lowN (sz S0.num)),.string (bigS (sz S0.num)),.bool (ng S0.num),.int .u64 (lowN (fm S0)),.string (bigS (fm S0)),.int .u64 (lowN (sz S1.num)),.string (bigS (sz S1.num)),.bool (ng S1.num),.int .u64 (lowN (fm S1)),.string (bigS (fm S1)),.int .u64 (lowN (sz S2.num)),.string (bigS (sz S2.num)),.bool (ng S2.num),.int .u64 (lowN (fm S2)),.string (bigS (fm S2))]) rfl rfl (VB.there (cs:= [.int .u64 0,.string ⟨#[]⟩,.bool false,.int .u64 0,.string ⟨#[]⟩,.int .u64 0,.string ⟨#[]⟩,.bool false,.int .u64 0,.string ⟨#[]⟩,.int .u64 0,.string ⟨#[]⟩,.bool false,.int .u64 0,.string ⟨#[]⟩]) ?_) info_F3 (by first|rfl|simp [Value.oneCell']) ?_
      ·(with_reducible (repeat' (first|(refine VB.new' ?_;exact(by first|omega|(simp;done)|(simp;omega)))|apply VB.put2|apply VB.put3|apply VB.put5|refine VB.drew ?_|refine VB.far ?_ ?_ _|refine VB.alloc ?_ _|refine VB.gr ?_ HG13.out ?_|refine VB.gr ?_ HG12.out ?_|refine VB.gr ?_ HG11.out ?_|omega|(simp;done)|(simp;omega))))
      simp only [pS]
      refine hK.out _ _ ?_ (fun hQ5=>?_)
      ·have hh:=hQ4;(try dsimp only at hh ⊢);simp only [cell_sets_ne (show kb≠w12.heap.size by omega),cell_sets_ne (show mb≠w12.heap.size by omega)];exact hh
      clear hK K hQ4
      refine wpAnyH_done (by kernel_rfl) ?_ _
      go_wp2_with fail
      go_meet
      refine⟨w12.heap.size,rfl,⟨?_,?_,?_⟩⟩
      ·refine VB.set (cs:= [.int .u64 0,.string ⟨#[]⟩,.bool false,.int .u64 0,.string ⟨#[]⟩,.int .u64 0,.string ⟨#[]⟩,.bool false,.int .u64 0,.string ⟨#[]⟩,.int .u64 0,.string ⟨#[]⟩,.bool false,.int .u64 0,.string ⟨#[]⟩]) ?_ [.int .u64 (lowN (sz S0.num)),.string (bigS (sz S0.num)),.bool (ng S0.num),.int .u64 (lowN (fm S0)),.string (bigS (fm S0)),.int .u64 (lowN (sz S1.num)),.string (bigS (sz S1.num)),.bool (ng S1.num),.int .u64 (lowN (fm S1)),.string (bigS (fm S1)),.int .u64 (lowN (sz S2.num)),.string (bigS (sz S2.num)),.bool (ng S2.num),.int .u64 (lowN (fm S2)),.string (bigS (fm S2))] rfl
       (with_reducible (repeat' (first|(refine VB.new' ?_;exact(by first|omega|(simp;done)|(simp;omega)))|apply VB.put2|apply VB.put3|apply VB.put5|refine VB.drew ?_|refine VB.far ?_ ?_ _|refine VB.alloc ?_ _|refine VB.gr ?_ HG13.out ?_|refine VB.gr ?_ HG12.out ?_|refine VB.gr ?_ HG11.out ?_|omega|(simp;done)|(simp;omega))))
      ·refine VB.fars (by omega) _ _ ?_
       (with_reducible (repeat' (first|(refine VB.new' ?_;exact(by first|omega|(simp;done)|(simp;omega)))|apply VB.put2|apply VB.put3|apply VB.put5|refine VB.drew ?_|refine VB.far ?_ ?_ _|refine VB.alloc ?_ _|exact HM4.out|refine VB.gr ?_ HG13.out ?_|refine VB.gr ?_ HG12.out ?_|refine VB.gr ?_ HG11.out ?_|omega|(simp;done)|(simp;omega))))
      ·exact Gr.sets (by omega) _ _ (by(with_reducible (repeat' (first|exact Gr.refl _ _|refine Gr.drew ?_|refine Gr.setCell ?_ ?_ _|refine Gr.alloc ?_ ?_ _|refine Gr.trans ?_ (Gr.mono HG13.out ?_)|refine Gr.trans ?_ (Gr.mono HG12.out ?_)|refine Gr.trans ?_ (Gr.mono HG11.out ?_)|refine Gr.trans ?_ (Gr.mono HG4.out ?_)|omega|(simp;done)|(simp;omega)))))
    ·go_simp
     have ha2_0:kb<w11.heap.size+1:=(by omega)
     have ha2_1:mb<w11.heap.size+1:=(by omega)
     have ha2_2:w11.heap.size<w11.heap.size+1:=(by omega)
     (try dsimp only)
     refine hK.out _ _ ?_ (fun hQ2=>?_)
     ·(first|exact trivial|((try dsimp only);simp [go_sem, *]))
     clear hK K hQ1
     try simp only [pS]
     refine wpAnyH_ready (rs:= [9]) (by kernel_rfl) (by simp) ?_
     refine AllReadyH.cons rfl (fun K hK=>?_) AllReadyH.nil
     go_simp
     (refine(hA1.out _).mono ?_;rintro e w12 ⟨rfl,hg12⟩;(try (with_reducible replace hg12:=Gr.of_drew hg12));have hsz12:=hg12.size;(try simp at hsz12);have hy12_0:kb<w12.heap.size:=(by omega);have hy12_1:mb<w12.heap.size:=(by omega);have hy12_2:w11.heap.size<w12.heap.size:=(by omega);obtain ⟨hc12,hf12⟩:=hg12.cells;have HG12:=Lib.hid hg12;clear hg12)
     (try dsimp only)
     refine hK.out _ _ ?_ (fun hQ3=>?_)
     ·(first|exact trivial|((try dsimp only);simp [go_sem, *]))
     clear hK K hQ2
     try simp only [pS]
     refine wpAnyH_ready (rs:= [14]) (by kernel_rfl) (by simp) ?_
     refine AllReadyH.cons rfl (fun K hK=>?_) AllReadyH.nil
     go_simp
     (refine(hA2.out _).mono ?_;rintro e w13 ⟨rfl,hg13⟩;(try (with_reducible replace hg13:=Gr.of_drew hg13));have hsz13:=hg13.size;(try simp at hsz13);have hy13_0:kb<w13.heap.size:=(by omega);have hy13_1:mb<w13.heap.size:=(by omega);have hy13_2:w11.heap.size<w13.heap.size:=(by omega);obtain ⟨hc13,hf13⟩:=hg13.cells;have HG13:=Lib.hid hg13;clear hg13)
     (try dsimp only)
     refine hK.out _ _ ?_ (fun hQ4=>?_)
     ·(first|exact trivial|((try dsimp only);simp [go_sem, *]))
     clear hK K hQ3
     try simp only [pS]
     refine tk 15 (some 70) (.agg #[.int .u64 (lowN (sz S0.num)),.string (bigS (sz S0.num)),.bool (ng S0.num),.int .u64 (lowN (fm S0)),.string (bigS (fm S0)),.int .u64 (lowN (sz S1.num)),.string (bigS (sz S1.num)),.bool (ng S1.num),.int .u64 (lowN (fm S1)),.string (bigS (fm S1)),.int .u64 (lowN (sz S2.num)),.string (bigS (sz S2.num)),.bool (ng S2.num),.int .u64 (lowN (fm S2)),.string (bigS (fm S2))]) ?_
     try simp only [pS]
     refine wpAnyH_ready (rs:= [17]) (by kernel_rfl) (by simp) ?_
     refine AllReadyH.cons (o:=⟨none,_,_,_,_,_⟩) rfl (fun K hK=>?_) AllReadyH.nil
     rw [if_pos (by rfl)]
     refine wp_store_mid 35 _ _ rfl (w11.heap.size) 0 (List.toArray [.int .u64 (lowN (sz S0.num)),.string (bigS (sz S0.num)),.bool (ng S0.num),.int .u64 (lowN (fm S0)),.string (bigS (fm S0)),.int .u64 (lowN (sz S1.num)),.string (bigS (sz S1.num)),.bool (ng S1.num),.int .u64 (lowN (fm S1)),.string (bigS (fm S1)),.int .u64 (lowN (sz S2.num)),.string (bigS (sz S2.num)),.bool (ng S2.num),.int .u64 (lowN (fm S2)),.string (bigS (fm S2))]) rfl rfl (VB.there (cs:= [.int .u64 0,.string ⟨#[]⟩,.bool false,.int .u64 0,.string ⟨#[]⟩,.int .u64 0,.string ⟨#[]⟩,.bool false,.int .u64 0,.string ⟨#[]⟩,.int .u64 0,.string ⟨#[]⟩,.bool false,.int .u64 0,.string ⟨#[]⟩]) ?_) info_F3 (by first|rfl|simp [Value.oneCell']) ?_
     ·(with_reducible (repeat' (first|(refine VB.new' ?_;exact(by first|omega|(simp;done)|(simp;omega)))|apply VB.put2|apply VB.put3|apply VB.put5|refine VB.drew ?_|refine VB.far ?_ ?_ _|refine VB.alloc ?_ _|refine VB.gr ?_ HG13.out ?_|refine VB.gr ?_ HG12.out ?_|refine VB.gr ?_ HG11.out ?_|omega|(simp;done)|(simp;omega))))
     simp only [pS]
     refine hK.out _ _ ?_ (fun hQ5=>?_)
     ·have hh:=hQ4;(try dsimp only at hh ⊢);simp only [cell_sets_ne (show kb≠w11.heap.size by omega),cell_sets_ne (show mb≠w11.heap.size by omega)];exact hh
     clear hK K hQ4
     refine wpAnyH_done (by kernel_rfl) ?_ _
     go_wp2_with fail
     go_meet
     refine⟨w11.heap.size,rfl,⟨?_,?_,?_⟩⟩
     ·refine VB.set (cs:= [.int .u64 0,.string ⟨#[]⟩,.bool false,.int .u64 0,.string ⟨#[]⟩,.int .u64 0,.string ⟨#[]⟩,.bool false,.int .u64 0,.string ⟨#[]⟩,.int .u64 0,.string ⟨#[]⟩,.bool false,.int .u64 0,.string ⟨#[]⟩]) ?_ [.int .u64 (lowN (sz S0.num)),.string (bigS (sz S0.num)),.bool (ng S0.num),.int .u64 (lowN (fm S0)),.string (bigS (fm S0)),.int .u64 (lowN (sz S1.num)),.string (bigS (sz S1.num)),.bool (ng S1.num),.int .u64 (lowN (fm S1)),.string (bigS (fm S1)),.int .u64 (lowN (sz S2.num)),.string (bigS (sz S2.num)),.bool (ng S2.num),.int .u64 (lowN (fm S2)),.string (bigS (fm S2))] rfl
      (with_reducible (repeat' (first|(refine VB.new' ?_;exact(by first|omega|(simp;done)|(simp;omega)))|apply VB.put2|apply VB.put3|apply VB.put5|refine VB.drew ?_|refine VB.far ?_ ?_ _|refine VB.alloc ?_ _|refine VB.gr ?_ HG13.out ?_|refine VB.gr ?_ HG12.out ?_|refine VB.gr ?_ HG11.out ?_|omega|(simp;done)|(simp;omega))))
     ·refine VB.fars (by omega) _ _ ?_
      (with_reducible (repeat' (first|(refine VB.new' ?_;exact(by first|omega|(simp;done)|(simp;omega)))|apply VB.put2|apply VB.put3|apply VB.put5|refine VB.drew ?_|refine VB.far ?_ ?_ _|refine VB.alloc ?_ _|exact HM4.out|refine VB.gr ?_ HG13.out ?_|refine VB.gr ?_ HG12.out ?_|refine VB.gr ?_ HG11.out ?_|omega|(simp;done)|(simp;omega))))
     ·exact Gr.sets (by omega) _ _ (by(with_reducible (repeat' (first|exact Gr.refl _ _|refine Gr.drew ?_|refine Gr.setCell ?_ ?_ _|refine Gr.alloc ?_ ?_ _|refine Gr.trans ?_ (Gr.mono HG13.out ?_)|refine Gr.trans ?_ (Gr.mono HG12.out ?_)|refine Gr.trans ?_ (Gr.mono HG11.out ?_)|refine Gr.trans ?_ (Gr.mono HG4.out ?_)|omega|(simp;done)|(simp;omega)))))
   ·go_simp
    have ha1_0:kb<w10.heap.size+1:=(by omega)
    have ha1_1:mb<w10.heap.size+1:=(by omega)
    have ha1_2:w10.heap.size<w10.heap.size+1:=(by omega)
    (try dsimp only)
    refine hK.out _ _ ?_ (fun hQ1=>?_)
    ·(first|exact trivial|((try dsimp only);simp [go_sem, *]))
    clear hK K hHeld
    try simp only [pS]
    refine wpAnyH_ready (rs:= [4]) (by kernel_rfl) (by simp) ?_
    refine AllReadyH.cons rfl (fun K hK=>?_) AllReadyH.nil
    go_simp
    (refine(hA0.out _).mono ?_;rintro e w11 ⟨rfl,hg11⟩;(try (with_reducible replace hg11:=Gr.of_drew hg11));have hsz11:=hg11.size;(try simp at hsz11);have hy11_0:kb<w11.heap.size:=(by omega);have hy11_1:mb<w11.heap.size:=(by omega);have hy11_2:w10.heap.size<w11.heap.size:=(by omega);obtain ⟨hc11,hf11⟩:=hg11.cells;have HG11:=Lib.hid hg11;clear hg11)
    (try dsimp only)
    refine hK.out _ _ ?_ (fun hQ2=>?_)
    ·(first|exact trivial|((try dsimp only);simp [go_sem, *]))
    clear hK K hQ1
    try simp only [pS]
    refine wpAnyH_ready (rs:= [9]) (by kernel_rfl) (by simp) ?_
    refine AllReadyH.cons rfl (fun K hK=>?_) AllReadyH.nil
    go_simp
    (refine(hA1.out _).mono ?_;rintro e w12 ⟨rfl,hg12⟩;(try (with_reducible replace hg12:=Gr.of_drew hg12));have hsz12:=hg12.size;(try simp at hsz12);have hy12_0:kb<w12.heap.size:=(by omega);have hy12_1:mb<w12.heap.size:=(by omega);have hy12_2:w10.heap.size<w12.heap.size:=(by omega);obtain ⟨hc12,hf12⟩:=hg12.cells;have HG12:=Lib.hid hg12;clear hg12)
    (try dsimp only)
    refine hK.out _ _ ?_ (fun hQ3=>?_)
    ·(first|exact trivial|((try dsimp only);simp [go_sem, *]))
    clear hK K hQ2
    try simp only [pS]
    refine wpAnyH_ready (rs:= [14]) (by kernel_rfl) (by simp) ?_
    refine AllReadyH.cons rfl (fun K hK=>?_) AllReadyH.nil
    go_simp
    (refine(hA2.out _).mono ?_;rintro e w13 ⟨rfl,hg13⟩;(try (with_reducible replace hg13:=Gr.of_drew hg13));have hsz13:=hg13.size;(try simp at hsz13);have hy13_0:kb<w13.heap.size:=(by omega);have hy13_1:mb<w13.heap.size:=(by omega);have hy13_2:w10.heap.size<w13.heap.size:=(by omega);obtain ⟨hc13,hf13⟩:=hg13.cells;have HG13:=Lib.hid hg13;clear hg13)
    (try dsimp only)
    refine hK.out _ _ ?_ (fun hQ4=>?_)
    ·(first|exact trivial|((try dsimp only);simp [go_sem, *]))
    clear hK K hQ3
    try simp only [pS]
    refine tk 15 (some 70) (.agg #[.int .u64 (lowN (sz S0.num)),.string (bigS (sz S0.num)),.bool (ng S0.num),.int .u64 (lowN (fm S0)),.string (bigS (fm S0)),.int .u64 (lowN (sz S1.num)),.string (bigS (sz S1.num)),.bool (ng S1.num),.int .u64 (lowN (fm S1)),.string (bigS (fm S1)),.int .u64 (lowN (sz S2.num)),.string (bigS (sz S2.num)),.bool (ng S2.num),.int .u64 (lowN (fm S2)),.string (bigS (fm S2))]) ?_
    try simp only [pS]
    refine wpAnyH_ready (rs:= [17]) (by kernel_rfl) (by simp) ?_
    refine AllReadyH.cons (o:=⟨none,_,_,_,_,_⟩) rfl (fun K hK=>?_) AllReadyH.nil
    rw [if_pos (by rfl)]
    refine wp_store_mid 35 _ _ rfl (w10.heap.size) 0 (List.toArray [.int .u64 (lowN (sz S0.num)),.string (bigS (sz S0.num)),.bool (ng S0.num),.int .u64 (lowN (fm S0)),.string (bigS (fm S0)),.int .u64 (lowN (sz S1.num)),.string (bigS (sz S1.num)),.bool (ng S1.num),.int .u64 (lowN (fm S1)),.string (bigS (fm S1)),.int .u64 (lowN (sz S2.num)),.string (bigS (sz S2.num)),.bool (ng S2.num),.int .u64 (lowN (fm S2)),.string (bigS (fm S2))]) rfl rfl (VB.there (cs:= [.int .u64 0,.string ⟨#[]⟩,.bool false,.int .u64 0,.string ⟨#[]⟩,.int .u64 0,.string ⟨#[]⟩,.bool false,.int .u64 0,.string ⟨#[]⟩,.int .u64 0,.string ⟨#[]⟩,.bool false,.int .u64 0,.string ⟨#[]⟩]) ?_) info_F3 (by first|rfl|simp [Value.oneCell']) ?_
    ·(with_reducible (repeat' (first|(refine VB.new' ?_;exact(by first|omega|(simp;done)|(simp;omega)))|apply VB.put2|apply VB.put3|apply VB.put5|refine VB.drew ?_|refine VB.far ?_ ?_ _|refine VB.alloc ?_ _|refine VB.gr ?_ HG13.out ?_|refine VB.gr ?_ HG12.out ?_|refine VB.gr ?_ HG11.out ?_|omega|(simp;done)|(simp;omega))))
    simp only [pS]
    refine hK.out _ _ ?_ (fun hQ5=>?_)
    ·have hh:=hQ4;(try dsimp only at hh ⊢);simp only [cell_sets_ne (show kb≠w10.heap.size by omega),cell_sets_ne (show mb≠w10.heap.size by omega)];exact hh
    clear hK K hQ4
    refine wpAnyH_done (by kernel_rfl) ?_ _
    go_wp2_with fail
    go_meet
    refine⟨w10.heap.size,rfl,⟨?_,?_,?_⟩⟩
    ·refine VB.set (cs:= [.int .u64 0,.string ⟨#[]⟩,.bool false,.int .u64 0,.string ⟨#[]⟩,.int .u64 0,.string ⟨#[]⟩,.bool false,.int .u64 0,.string ⟨#[]⟩,.int .u64 0,.string ⟨#[]⟩,.bool false,.int .u64 0,.string ⟨#[]⟩]) ?_ [.int .u64 (lowN (sz S0.num)),.string (bigS (sz S0.num)),.bool (ng S0.num),.int .u64 (lowN (fm S0)),.string (bigS (fm S0)),.int .u64 (lowN (sz S1.num)),.string (bigS (sz S1.num)),.bool (ng S1.num),.int .u64 (lowN (fm S1)),.string (bigS (fm S1)),.int .u64 (lowN (sz S2.num)),.string (bigS (sz S2.num)),.bool (ng S2.num),.int .u64 (lowN (fm S2)),.string (bigS (fm S2))] rfl
     (with_reducible (repeat' (first|(refine VB.new' ?_;exact(by first|omega|(simp;done)|(simp;omega)))|apply VB.put2|apply VB.put3|apply VB.put5|refine VB.drew ?_|refine VB.far ?_ ?_ _|refine VB.alloc ?_ _|refine VB.gr ?_ HG13.out ?_|refine VB.gr ?_ HG12.out ?_|refine VB.gr ?_ HG11.out ?_|omega|(simp;done)|(simp;omega))))
    ·refine VB.fars (by omega) _ _ ?_
     (with_reducible (repeat' (first|(refine VB.new' ?_;exact(by first|omega|(simp;done)|(simp;omega)))|apply VB.put2|apply VB.put3|apply VB.put5|refine VB.drew ?_|refine VB.far ?_ ?_ _|refine VB.alloc ?_ _|exact HM4.out|refine VB.gr ?_ HG13.out ?_|refine VB.gr ?_ HG12.out ?_|refine VB.gr ?_ HG11.out ?_|omega|(simp;done)|(simp;omega))))
    ·exact Gr.sets (by omega) _ _ (by(with_reducible (repeat' (first|exact Gr.refl _ _|refine Gr.drew ?_|refine Gr.setCell ?_ ?_ _|refine Gr.alloc ?_ ?_ _|refine Gr.trans ?_ (Gr.mono HG13.out ?_)|refine Gr.trans ?_ (Gr.mono HG12.out ?_)|refine Gr.trans ?_ (Gr.mono HG11.out ?_)|refine Gr.trans ?_ (Gr.mono HG4.out ?_)|omega|(simp;done)|(simp;omega)))))
  case rest=>
   obtain ⟨g,rfl,hS⟩:=hcut
   have hvl:=hS.v.lt
   have hml:=hS.m_.lt
   have HV:=Lib.hid hS.v
   have HM5:=Lib.hid hS.m_
   have HG5:=Lib.hid hS.gr
   clear hS HM4 HK4 HG4 m0 k0 m1 k1 m2 k2 m3 k3 m4 k4 m5 k5 m6 k6 m7 k7 m8 k8 m9 k9 m10 k10 m11 k11 m12 k12 m13 k13 m14 k14
   have m0:=HM5.out.c 0 _ rfl
   have m1:=HM5.out.c 1 _ rfl
   have m2:=HM5.out.c 2 _ rfl
   have m3:=HM5.out.c 3 _ rfl
   have m4:=HM5.out.c 4 _ rfl
   have m5:=HM5.out.c 5 _ rfl
   have m6:=HM5.out.c 6 _ rfl
   have m7:=HM5.out.c 7 _ rfl
   have m8:=HM5.out.c 8 _ rfl
   have m9:=HM5.out.c 9 _ rfl
   have m10:=HM5.out.c 10 _ rfl
   have m11:=HM5.out.c 11 _ rfl
   have m12:=HM5.out.c 12 _ rfl
   have m13:=HM5.out.c 13 _ rfl
   have m14:=HM5.out.c 14 _ rfl
   have v0:=HV.out.c 0 _ rfl
   have v1:=HV.out.c 1 _ rfl
   have v2:=HV.out.c 2 _ rfl
   have v3:=HV.out.c 3 _ rfl
   have v4:=HV.out.c 4 _ rfl
   have v5:=HV.out.c 5 _ rfl
   have v6:=HV.out.c 6 _ rfl
   have v7:=HV.out.c 7 _ rfl
   have v8:=HV.out.c 8 _ rfl
   have v9:=HV.out.c 9 _ rfl
   have v10:=HV.out.c 10 _ rfl
   have v11:=HV.out.c 11 _ rfl
   have v12:=HV.out.c 12 _ rfl
   have v13:=HV.out.c 13 _ rfl
   have v14:=HV.out.c 14 _ rfl
   cases good with
   | false=>
    go_wp2_with fail
    (refine(hL.out _).mono ?_;rintro e w11 ⟨rfl,hg11⟩;(try (with_reducible replace hg11:=Gr.of_drew hg11));have hsz11:=hg11.size;(try simp at hsz11);skip;obtain ⟨hc11,hf11⟩:=hg11.cells;have HG11:=Lib.hid hg11;clear hg11)
    go_wp2
    go_ret
    exact⟨rfl,by(with_reducible (repeat' (first|exact Gr.refl _ _|refine Gr.drew ?_|refine Gr.setCell ?_ ?_ _|refine Gr.alloc ?_ ?_ _|refine Gr.trans ?_ (Gr.mono HG11.out ?_)|refine Gr.trans ?_ (Gr.mono HG5.out ?_)|omega|(simp;done)|(simp;omega))))⟩
   | true=>
    cases dm with
    | false=>
     go_wp2_with fail
     (refine(hDm.out _).mono ?_;rintro e w11 ⟨rfl,hg11⟩;(try (with_reducible replace hg11:=Gr.of_drew hg11));have hsz11:=hg11.size;(try simp at hsz11);have hy11_0:g<w11.heap.size:=(by omega);have hy11_1:mb<w11.heap.size:=(by omega);obtain ⟨hc11,hf11⟩:=hg11.cells;have HG11:=Lib.hid hg11;clear hg11)
     go_wp2_with fail
     (refine(hL.out _).mono ?_;rintro e w12 ⟨rfl,hg12⟩;(try (with_reducible replace hg12:=Gr.of_drew hg12));have hsz12:=hg12.size;(try simp at hsz12);skip;obtain ⟨hc12,hf12⟩:=hg12.cells;have HG12:=Lib.hid hg12;clear hg12)
     go_wp2
     go_ret
     exact⟨rfl,by(with_reducible (repeat' (first|exact Gr.refl _ _|refine Gr.drew ?_|refine Gr.setCell ?_ ?_ _|refine Gr.alloc ?_ ?_ _|refine Gr.trans ?_ (Gr.mono HG12.out ?_)|refine Gr.trans ?_ (Gr.mono HG11.out ?_)|refine Gr.trans ?_ (Gr.mono HG5.out ?_)|omega|(simp;done)|(simp;omega))))⟩
    | true=>
     have hDx:Hid (∀w,Calls Tryz.prog 10 #[k3V S0 S1 S2] w (Ret w (.bool true))):=Lib.hid (fun w=>hDs.out (by simp) (by simp) w)
     go_wp2_with fail
     (refine(hDm.out _).mono ?_;rintro e w11 ⟨rfl,hg11⟩;(try (with_reducible replace hg11:=Gr.of_drew hg11));have hsz11:=hg11.size;(try simp at hsz11);have hy11_0:g<w11.heap.size:=(by omega);have hy11_1:mb<w11.heap.size:=(by omega);obtain ⟨hc11,hf11⟩:=hg11.cells;have HG11:=Lib.hid hg11;clear hg11)
     go_wp2_with fail
     (refine(hDx.out _).mono ?_;rintro e w12 ⟨rfl,hg12⟩;(try (with_reducible replace hg12:=Gr.of_drew hg12));have hsz12:=hg12.size;(try simp at hsz12);have hy12_0:g<w12.heap.size:=(by omega);have hy12_1:mb<w12.heap.size:=(by omega);obtain ⟨hc12,hf12⟩:=hg12.cells;have HG12:=Lib.hid hg12;clear hg12)
     go_wp2_with fail
     (refine(hL.out _).mono ?_;rintro e w13 ⟨rfl,hg13⟩;(try (with_reducible replace hg13:=Gr.of_drew hg13));have hsz13:=hg13.size;(try simp at hsz13);skip;obtain ⟨hc13,hf13⟩:=hg13.cells;have HG13:=Lib.hid hg13;clear hg13)
     go_wp2
     go_ret
     exact⟨rfl,by(with_reducible (repeat' (first|exact Gr.refl _ _|refine Gr.drew ?_|refine Gr.setCell ?_ ?_ _|refine Gr.alloc ?_ ?_ _|refine Gr.trans ?_ (Gr.mono HG13.out ?_)|refine Gr.trans ?_ (Gr.mono HG12.out ?_)|refine Gr.trans ?_ (Gr.mono HG11.out ?_)|refine Gr.trans ?_ (Gr.mono HG5.out ?_)|omega|(simp;done)|(simp;omega))))⟩
end Go.Proofs.YtpnlfljfgfkejaaGreat
