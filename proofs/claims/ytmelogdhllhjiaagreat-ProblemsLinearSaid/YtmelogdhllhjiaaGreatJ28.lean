/-
  Part 28 of the proof: Rim.
-/
import Derived.Test.YtmelogdhllhjiaaGreatJ27
import Derived.Test.YtmelogdhllhjiaaGreatJ26
set_option linter.unusedSimpArgs false
set_option linter.unusedVariables false
namespace Go.Proofs.YtmelogdhllhjiaaGreat
open Go.RowKit Gus Go.Maps
set_option maxRecDepth 20000 in
set_option maxHeartbeats 8000000 in
theorem ms_Rim (pts:List Pt) (hl:pts.length=4) (vp v:Value) (w:World) (hP:SR pC 10 94 w 0 vp pts) (hS:SR triC 3 96 w 0 v sqT):Calls Tryz.prog 42 #[vp,v] w (fun e w'=> ∃v',e= .returned v'∧SR triC 3 87 w' w.heap.size v' rmS∧Gr w.heap.size w w'):=by
 obtain ⟨ap,cp,rfl⟩:=hP.at
 rw [hl]
 obtain ⟨g,cap,rfl,_,hcap,hcm,hsh,hR⟩:=hS.block (by simp [sqT])
 have HN:=Lib.hid (show Calls Tryz.prog 70 #[.slice (some ⟨g,0,none⟩) 2 cap,.int .i64 4] w (Ret w (.bool true))from ms_numbered sqT 4 _ w hS sqT_good)
 have HS:=Lib.hid (show SR triC 3 96 w 0 (.slice (some ⟨g,0,none⟩) 2 cap) sqT from hS)
 have hglt:=hsh.lt
 have HR:=Lib.hid hR
 clear hP hS hsh hR
 simp only [sqT,List.length_cons,List.length_nil]at hcap ⊢
 obtain ⟨i0,hi,hz0,hz1,hz2⟩:=info_parts info_bSide
 have HI:=Lib.hid (And.intro hi (And.intro hz0 (And.intro hz1 hz2)))
 clear hi hz0 hz1 hz2
 have hmm:= @run_makeMap Tryz.prog
 have hw1:IntKind.i64.wrap 1=1:=by decide
 have hw2:IntKind.i64.wrap 2=2:=by decide
 have hw3:IntKind.i64.wrap 3=3:=by decide
 have hw0:IntKind.i64.wrap 0=0:=by decide
 have hm01:min (0:Int) 1=0:=by decide
 have hM01:max (0:Int) 1=1:=by decide
 have hm12:min (1:Int) 2=1:=by decide
 have hM12:max (1:Int) 2=2:=by decide
 have hm20:min (2:Int) 0=0:=by decide
 have hM20:max (2:Int) 0=2:=by decide
 have hm02:min (0:Int) 2=0:=by decide
 have hM02:max (0:Int) 2=2:=by decide
 have hm23:min (2:Int) 3=2:=by decide
 have hM23:max (2:Int) 3=3:=by decide
 have hm30:min (3:Int) 0=0:=by decide
 have hM30:max (3:Int) 0=3:=by decide
 go_enter Tryz.func42,Tryz.ntmps42
 go_wp2_with fail
 (refine(HN.out).mono ?_;rintro e w1 ⟨rfl,hg1⟩;(try (with_reducible replace hg1:=Gr.of_drew hg1));have hsz1:=hg1.size;(try simp at hsz1);skip;obtain ⟨hc1,hf1⟩:=hg1.cells;have HG1:=Lib.hid hg1;clear hg1)
 go_wp2
 have HMI0:=Lib.hid (show MIR (w1.alloc (.map #[] 0)) w1.heap.size (RL 0)from MI.new w1 _ _)
 have HG0:=Lib.hid (show Gr w.heap.size w (w1.alloc (.map #[] 0))from by(with_reducible (repeat' (first|exact Gr.refl _ _|refine Gr.drew ?_|refine Gr.setCell ?_ ?_ _|refine Gr.alloc ?_ ?_ _|refine Gr.trans ?_ (Gr.mono HG1.out ?_)|omega|(simp;done)|(simp;omega)))))
 clear hc1 hf1 HG1 hmm HN
 generalize w1.alloc (.map #[] 0)=wz at *
 generalize w1.heap.size=mb at *
 go_loopw [22] (fun s wr=> ∃n:Nat,n≤2∧s= .int .i64 n∧Hid (MIR wr mb (RL (3*n)))∧Hid (Gr w.heap.size w wr)) (fun s _=>2 - (intOf s).toNat)
 case atStart=>exact⟨0,by omega,rfl,HMI0,HG0⟩
 case round=>
  clear HMI0 HG0
  obtain ⟨n,hn,rfl,HMI1,HG2⟩:=hrel
  have hszr:=HG2.out.size
  have hml:=HMI1.out.lt
  rcases(show n=0∨n=1∨n=2 by omega)with rfl|rfl|rfl
  ·obtain ⟨v0,v1,v2⟩:=(HR.out.gr HG2.out hglt).fTri (j:=0) (by simp [sqT]) rfl
   simp [sqT]at v0 v1 v2
   simp only [show((0:Nat):Int)=0 from rfl]
   go_wp2
   have HVB2:=Lib.hid (VB.new wr [.int .i64 0,.int .i64 1,.int .i64 2] 96)
   have HG3:=Lib.hid (show Gr w.heap.size w (wr.alloc (.cells #[.int .i64 0,.int .i64 1,.int .i64 2] 96))from by(with_reducible (repeat' (first|exact Gr.refl _ _|refine Gr.drew ?_|refine Gr.setCell ?_ ?_ _|refine Gr.alloc ?_ ?_ _|refine Gr.trans ?_ (Gr.mono HG2.out ?_)|omega|(simp;done)|(simp;omega)))))
   have HMI2:=Lib.hid (HMI1.out.alloc (.cells #[.int .i64 0,.int .i64 1,.int .i64 2] 96))
   have hml2:mb<wr.heap.size:=hml
   clear HMI1 HG2 hszr hml v0 v1 v2
   generalize wr.alloc (.cells #[.int .i64 0,.int .i64 1,.int .i64 2] 96)=wa at *
   generalize wr.heap.size=tb at *
   go_loopw [26] (fun s wr=> ∃k:Nat,k≤3∧s= .int .i64 k∧Hid (MIR wr mb (RL (0+k)))∧Hid (VB wr tb [.int .i64 0,.int .i64 1,.int .i64 2])∧Hid (Gr w.heap.size w wr)) (fun s _=>3 - (intOf s).toNat)
   case atStart=>exact⟨0,by omega,rfl,HMI2,HVB2,HG3⟩
   case round=>
    clear HVB2 HMI2 HG3
    obtain ⟨k,hk,rfl,HMI,HVB,HG3⟩:=hrel
    have hsz3:=HG3.out.size
    have hvl:=HVB.out.lt
    have hbl:=HMI.out.lt
    obtain ⟨u0,u1,u2,_⟩:=HVB.out.three
    rcases(show k=0∨k=1∨k=2∨k=3 by omega)with rfl|rfl|rfl|rfl
    ·simp only [show((0:Nat):Int)=0 from rfl]
     go_wp2
     refine wp_region_held_drew (S:=(fun w'=>w'.cell? ⟨tb,0,none⟩=some (.int .i64 0)∧w'.cell? ⟨tb,1,none⟩=some (.int .i64 1)∧w'.cell? ⟨tb,2,none⟩=some (.int .i64 2))) (by kernel_rfl) ?_ (fun hHeld=>?_)
     ·simp [go_sem, *]
     refine tk 0 (some 29) (.int .i64 0) ?_
     try simp only [pS]
     refine tk 1 (some 30) (.pointer (some ⟨tb,0,none⟩)) ?_
     try simp only [pS]
     refine tk 2 (some 31) (.int .i64 0) ?_
     try simp only [pS]
     refine tk 3 (some 32) (.int .i64 0) ?_
     try simp only [pS]
     refine tk 4 (some 33) (.int .i64 1) ?_
     try simp only [pS]
     refine tk 5 (some 34) (.int .i64 1) ?_
     try simp only [pS]
     refine tk 6 (some 35) (.pointer (some ⟨tb,1,none⟩)) ?_
     try simp only [pS]
     refine tk 7 (some 36) (.int .i64 1) ?_
     try simp only [pS]
     refine tk 8 (some 9) (.int .i64 0) ?_
     try simp only [pS]
     refine tk 9 (some 10) (.int .i64 1) ?_
     try simp only [pS]
     refine wpAnyH_done (by kernel_rfl) ?_ _
     go_wp2
     have hmi:MIR wr.drew.drew mb (RL 0):=HMI.out
     have hlk:(Instr.lookup 129 (.map (some mb)) (endK 0 1) false).run Tryz.prog wr.drew.drew= .ok (.int .i64 0) (wr.drew.drew):=MI.look_none false hmi keyed_R under_R (zeroInt _) (key:=(endK 0 1)) (keyOf_R (i:=0) (j:=1) (by omega) (by omega)) (by simp [RL,eR,endK])
     obtain ⟨sn,w1,hme,hmi1,hkp1,hsz1,hst⟩:=hmi.entry_new keyed_R under_R zeroInt (key:=(endK 0 1)) (keyOf_R (i:=0) (j:=1) (by omega) (by omega)) (by simp [RL,eR,endK]) (by simp [RL,maxLen])
     have hlk1:(Instr.lookup 129 (.map (some mb)) (endK 0 1) false).run Tryz.prog w1= .ok (.int .i64 0) w1:=MI.look_some false hmi1 keyed_R under_R (zeroInt _) (key:=(endK 0 1)) (v:= .int .i64 0) (keyOf_R (i:=0) (j:=1) (by omega) (by omega)) (by simp [RL,eR])
     obtain ⟨w3,hes,hmi3,hkp3,hsz3⟩:=hst w1 (.int .i64 1) rfl
     have HMI3:=Lib.hid (show MIR w3 mb (RL 1)from hmi3)
     have HKP1:=Lib.hid hkp1
     have HKP3:=Lib.hid hkp3
     have hs1:wr.heap.size≤w1.heap.size:=by rw [hsz1];exact Nat.le_refl _
     clear hmi hmi1 hmi3 hkp1 hkp3 hst hsz1 hsz3
     refine wp_region_held_drew (S:=(fun w'=>True)) (by kernel_rfl) ?_ (fun hHeld=>?_)
     ·simp [go_sem, *]
     refine tk 0 (some 37) (.map (some mb)) ?_
     try simp only [pS]
     refine tk 1 (some 38) (.int .i64 0) ?_
     try simp only [pS]
     refine tk 2 (some 39) (.int .i64 1) ?_
     try simp only [pS]
     refine tk 3 (some 40) (.int .i64 0) ?_
     try simp only [pS]
     refine tk 4 (some 41) (.int .i64 0) ?_
     try simp only [pS]
     refine tk 5 (some 42) (.int .i64 1) ?_
     try simp only [pS]
     refine tk 6 (some 43) (.int .i64 1) ?_
     try simp only [pS]
     refine tk 7 (some 44) (.agg #[.int .i64 0,.int .i64 1]) ?_
     try simp only [pS]
     refine wpAnyH_ready (rs:= [8,10]) (by kernel_rfl) (by simp) ?_
     refine AllReadyH.cons rfl (fun K hK=>?_) (AllReadyH.cons rfl (fun K hK=>?_) AllReadyH.nil)
     ·go_simp
      (try dsimp only)
      refine hK.out _ _ ?_ (fun hQ1=>?_)
      ·exact trivial
      clear hK K hHeld
      try simp only [pS]
      refine tk 9 (some 46) (.int .i64 1) ?_
      try simp only [pS]
      refine rd 10 (fun K hK=>?_)
      go_simp
      (try dsimp only)
      refine hK.out _ _ ?_ (fun hQ2=>?_)
      ·(first|exact trivial|((try dsimp only);simp [go_sem, *]))
      clear hK K hQ1
      try simp only [pS]
      refine tk 11 (some 48) (.int .i64 (sn:Int)) ?_
      try simp only [pS]
      refine rd 12 (fun K hK=>?_)
      go_simp
      (try dsimp only)
      refine hK.out _ _ ?_ (fun hQ3=>?_)
      ·(first|exact trivial|((try dsimp only);simp [go_sem, *]))
      clear hK K hQ2
      try simp only [pS]
      refine wpAnyH_done (by kernel_rfl) ?_ _
      go_wp2
      go_roundw
      case rel=>exact⟨1,by omega,by go_num,HMI3,Lib.hid ((HVB.out.drew.drew.kp HKP1.out (by simp;omega)).kp HKP3.out (by simp;omega)),Lib.hid (((show Gr w.heap.size w wr.drew.drew from by(with_reducible (repeat' (first|exact Gr.refl _ _|refine Gr.drew ?_|refine Gr.setCell ?_ ?_ _|refine Gr.alloc ?_ ?_ _|refine Gr.trans ?_ (Gr.mono HG3.out ?_)|omega|(simp;done)|(simp;omega))))).trans (HKP1.out.gr (fun b e=>by cases e;exact hsz1) (by simp;omega))).trans (HKP3.out.gr (fun b e=>by cases e;exact hsz1) (by omega)))⟩
      case measure=>simp [intOf]
     ·go_simp
      (try dsimp only)
      refine hK.out _ _ ?_ (fun hQ1=>?_)
      ·exact trivial
      clear hK K hHeld
      try simp only [pS]
      refine tk 11 (some 48) (.int .i64 (sn:Int)) ?_
      try simp only [pS]
      refine rd 8 (fun K hK=>?_)
      go_simp
      (try dsimp only)
      refine hK.out _ _ ?_ (fun hQ2=>?_)
      ·(first|exact trivial|((try dsimp only);simp [go_sem, *]))
      clear hK K hQ1
      try simp only [pS]
      refine tk 9 (some 46) (.int .i64 1) ?_
      try simp only [pS]
      refine rd 12 (fun K hK=>?_)
      go_simp
      (try dsimp only)
      refine hK.out _ _ ?_ (fun hQ3=>?_)
      ·(first|exact trivial|((try dsimp only);simp [go_sem, *]))
      clear hK K hQ2
      try simp only [pS]
      refine wpAnyH_done (by kernel_rfl) ?_ _
      go_wp2
      go_roundw
      case rel=>exact⟨1,by omega,by go_num,HMI3,Lib.hid ((HVB.out.drew.drew.kp HKP1.out (by simp;omega)).kp HKP3.out (by simp;omega)),Lib.hid (((show Gr w.heap.size w wr.drew.drew from by(with_reducible (repeat' (first|exact Gr.refl _ _|refine Gr.drew ?_|refine Gr.setCell ?_ ?_ _|refine Gr.alloc ?_ ?_ _|refine Gr.trans ?_ (Gr.mono HG3.out ?_)|omega|(simp;done)|(simp;omega))))).trans (HKP1.out.gr (fun b e=>by cases e;exact hsz1) (by simp;omega))).trans (HKP3.out.gr (fun b e=>by cases e;exact hsz1) (by omega)))⟩
      case measure=>simp [intOf]
    ·simp only [show((1:Nat):Int)=1 from rfl]
     go_wp2
     refine wp_region_held_drew (S:=(fun w'=>w'.cell? ⟨tb,0,none⟩=some (.int .i64 0)∧w'.cell? ⟨tb,1,none⟩=some (.int .i64 1)∧w'.cell? ⟨tb,2,none⟩=some (.int .i64 2))) (by kernel_rfl) ?_ (fun hHeld=>?_)
     ·simp [go_sem, *]
     refine tk 0 (some 29) (.int .i64 1) ?_
     try simp only [pS]
     refine tk 1 (some 30) (.pointer (some ⟨tb,1,none⟩)) ?_
     try simp only [pS]
     refine tk 2 (some 31) (.int .i64 1) ?_
     try simp only [pS]
     refine tk 3 (some 32) (.int .i64 1) ?_
     try simp only [pS]
     refine tk 4 (some 33) (.int .i64 2) ?_
     try simp only [pS]
     refine tk 5 (some 34) (.int .i64 2) ?_
     try simp only [pS]
     refine tk 6 (some 35) (.pointer (some ⟨tb,2,none⟩)) ?_
     try simp only [pS]
     refine tk 7 (some 36) (.int .i64 2) ?_
     try simp only [pS]
     refine tk 8 (some 9) (.int .i64 1) ?_
     try simp only [pS]
     refine tk 9 (some 10) (.int .i64 2) ?_
     try simp only [pS]
     refine wpAnyH_done (by kernel_rfl) ?_ _
     go_wp2
     have hmi:MIR wr.drew.drew mb (RL 1):=HMI.out
     have hlk:(Instr.lookup 129 (.map (some mb)) (endK 1 2) false).run Tryz.prog wr.drew.drew= .ok (.int .i64 0) (wr.drew.drew):=MI.look_none false hmi keyed_R under_R (zeroInt _) (key:=(endK 1 2)) (keyOf_R (i:=1) (j:=2) (by omega) (by omega)) (by simp [RL,eR,endK])
     obtain ⟨sn,w1,hme,hmi1,hkp1,hsz1,hst⟩:=hmi.entry_new keyed_R under_R zeroInt (key:=(endK 1 2)) (keyOf_R (i:=1) (j:=2) (by omega) (by omega)) (by simp [RL,eR,endK]) (by simp [RL,maxLen])
     have hlk1:(Instr.lookup 129 (.map (some mb)) (endK 1 2) false).run Tryz.prog w1= .ok (.int .i64 0) w1:=MI.look_some false hmi1 keyed_R under_R (zeroInt _) (key:=(endK 1 2)) (v:= .int .i64 0) (keyOf_R (i:=1) (j:=2) (by omega) (by omega)) (by simp [RL,eR])
     obtain ⟨w3,hes,hmi3,hkp3,hsz3⟩:=hst w1 (.int .i64 1) rfl
     have HMI3:=Lib.hid (show MIR w3 mb (RL 2)from hmi3)
     have HKP1:=Lib.hid hkp1
     have HKP3:=Lib.hid hkp3
     have hs1:wr.heap.size≤w1.heap.size:=by rw [hsz1];exact Nat.le_refl _
     clear hmi hmi1 hmi3 hkp1 hkp3 hst hsz1 hsz3
     refine wp_region_held_drew (S:=(fun w'=>True)) (by kernel_rfl) ?_ (fun hHeld=>?_)
     ·simp [go_sem, *]
     refine tk 0 (some 37) (.map (some mb)) ?_
     try simp only [pS]
     refine tk 1 (some 38) (.int .i64 1) ?_
     try simp only [pS]
     refine tk 2 (some 39) (.int .i64 2) ?_
     try simp only [pS]
     refine tk 3 (some 40) (.int .i64 1) ?_
     try simp only [pS]
     refine tk 4 (some 41) (.int .i64 1) ?_
     try simp only [pS]
     refine tk 5 (some 42) (.int .i64 2) ?_
     try simp only [pS]
     refine tk 6 (some 43) (.int .i64 2) ?_
     try simp only [pS]
     refine tk 7 (some 44) (.agg #[.int .i64 1,.int .i64 2]) ?_
     try simp only [pS]
     refine wpAnyH_ready (rs:= [8,10]) (by kernel_rfl) (by simp) ?_
     refine AllReadyH.cons rfl (fun K hK=>?_) (AllReadyH.cons rfl (fun K hK=>?_) AllReadyH.nil)
     ·go_simp
      (try dsimp only)
      refine hK.out _ _ ?_ (fun hQ1=>?_)
      ·exact trivial
      clear hK K hHeld
      try simp only [pS]
      refine tk 9 (some 46) (.int .i64 1) ?_
      try simp only [pS]
      refine rd 10 (fun K hK=>?_)
      go_simp
      (try dsimp only)
      refine hK.out _ _ ?_ (fun hQ2=>?_)
      ·(first|exact trivial|((try dsimp only);simp [go_sem, *]))
      clear hK K hQ1
      try simp only [pS]
      refine tk 11 (some 48) (.int .i64 (sn:Int)) ?_
      try simp only [pS]
      refine rd 12 (fun K hK=>?_)
      go_simp
      (try dsimp only)
      refine hK.out _ _ ?_ (fun hQ3=>?_)
      ·(first|exact trivial|((try dsimp only);simp [go_sem, *]))
      clear hK K hQ2
      try simp only [pS]
      refine wpAnyH_done (by kernel_rfl) ?_ _
      go_wp2
      go_roundw
      case rel=>exact⟨2,by omega,by go_num,HMI3,Lib.hid ((HVB.out.drew.drew.kp HKP1.out (by simp;omega)).kp HKP3.out (by simp;omega)),Lib.hid (((show Gr w.heap.size w wr.drew.drew from by(with_reducible (repeat' (first|exact Gr.refl _ _|refine Gr.drew ?_|refine Gr.setCell ?_ ?_ _|refine Gr.alloc ?_ ?_ _|refine Gr.trans ?_ (Gr.mono HG3.out ?_)|omega|(simp;done)|(simp;omega))))).trans (HKP1.out.gr (fun b e=>by cases e;exact hsz1) (by simp;omega))).trans (HKP3.out.gr (fun b e=>by cases e;exact hsz1) (by omega)))⟩
      case measure=>simp [intOf]
     ·go_simp
      (try dsimp only)
      refine hK.out _ _ ?_ (fun hQ1=>?_)
      ·exact trivial
      clear hK K hHeld
      try simp only [pS]
      refine tk 11 (some 48) (.int .i64 (sn:Int)) ?_
      try simp only [pS]
      refine rd 8 (fun K hK=>?_)
      go_simp
      (try dsimp only)
      refine hK.out _ _ ?_ (fun hQ2=>?_)
      ·(first|exact trivial|((try dsimp only);simp [go_sem, *]))
      clear hK K hQ1
      try simp only [pS]
      refine tk 9 (some 46) (.int .i64 1) ?_
      try simp only [pS]
      refine rd 12 (fun K hK=>?_)
      go_simp
      (try dsimp only)
      refine hK.out _ _ ?_ (fun hQ3=>?_)
      ·(first|exact trivial|((try dsimp only);simp [go_sem, *]))
      clear hK K hQ2
      try simp only [pS]
      refine wpAnyH_done (by kernel_rfl) ?_ _
      go_wp2
      go_roundw
      case rel=>exact⟨2,by omega,by go_num,HMI3,Lib.hid ((HVB.out.drew.drew.kp HKP1.out (by simp;omega)).kp HKP3.out (by simp;omega)),Lib.hid (((show Gr w.heap.size w wr.drew.drew from by(with_reducible (repeat' (first|exact Gr.refl _ _|refine Gr.drew ?_|refine Gr.setCell ?_ ?_ _|refine Gr.alloc ?_ ?_ _|refine Gr.trans ?_ (Gr.mono HG3.out ?_)|omega|(simp;done)|(simp;omega))))).trans (HKP1.out.gr (fun b e=>by cases e;exact hsz1) (by simp;omega))).trans (HKP3.out.gr (fun b e=>by cases e;exact hsz1) (by omega)))⟩
      case measure=>simp [intOf]
    ·simp only [show((2:Nat):Int)=2 from rfl]
     go_wp2
     refine wp_region_held_drew (S:=(fun w'=>w'.cell? ⟨tb,0,none⟩=some (.int .i64 0)∧w'.cell? ⟨tb,1,none⟩=some (.int .i64 1)∧w'.cell? ⟨tb,2,none⟩=some (.int .i64 2))) (by kernel_rfl) ?_ (fun hHeld=>?_)
     ·simp [go_sem, *]
     refine tk 0 (some 29) (.int .i64 2) ?_
     try simp only [pS]
     refine tk 1 (some 30) (.pointer (some ⟨tb,2,none⟩)) ?_
     try simp only [pS]
     refine tk 2 (some 31) (.int .i64 2) ?_
     try simp only [pS]
     refine tk 3 (some 32) (.int .i64 2) ?_
     try simp only [pS]
     refine tk 4 (some 33) (.int .i64 3) ?_
     try simp only [pS]
     refine tk 5 (some 34) (.int .i64 0) ?_
     try simp only [pS]
     refine tk 6 (some 35) (.pointer (some ⟨tb,0,none⟩)) ?_
     try simp only [pS]
     refine tk 7 (some 36) (.int .i64 0) ?_
     try simp only [pS]
     refine tk 8 (some 9) (.int .i64 2) ?_
     try simp only [pS]
     refine tk 9 (some 10) (.int .i64 0) ?_
     try simp only [pS]
     refine wpAnyH_done (by kernel_rfl) ?_ _
     go_wp2
     have hmi:MIR wr.drew.drew mb (RL 2):=HMI.out
     have hlk:(Instr.lookup 129 (.map (some mb)) (endK 0 2) false).run Tryz.prog wr.drew.drew= .ok (.int .i64 0) (wr.drew.drew):=MI.look_none false hmi keyed_R under_R (zeroInt _) (key:=(endK 0 2)) (keyOf_R (i:=0) (j:=2) (by omega) (by omega)) (by simp [RL,eR,endK])
     obtain ⟨sn,w1,hme,hmi1,hkp1,hsz1,hst⟩:=hmi.entry_new keyed_R under_R zeroInt (key:=(endK 0 2)) (keyOf_R (i:=0) (j:=2) (by omega) (by omega)) (by simp [RL,eR,endK]) (by simp [RL,maxLen])
     have hlk1:(Instr.lookup 129 (.map (some mb)) (endK 0 2) false).run Tryz.prog w1= .ok (.int .i64 0) w1:=MI.look_some false hmi1 keyed_R under_R (zeroInt _) (key:=(endK 0 2)) (v:= .int .i64 0) (keyOf_R (i:=0) (j:=2) (by omega) (by omega)) (by simp [RL,eR])
     obtain ⟨w3,hes,hmi3,hkp3,hsz3⟩:=hst w1 (.int .i64 1) rfl
     have HMI3:=Lib.hid (show MIR w3 mb (RL 3)from hmi3)
     have HKP1:=Lib.hid hkp1
     have HKP3:=Lib.hid hkp3
     have hs1:wr.heap.size≤w1.heap.size:=by rw [hsz1];exact Nat.le_refl _
     clear hmi hmi1 hmi3 hkp1 hkp3 hst hsz1 hsz3
     refine wp_region_held_drew (S:=(fun w'=>True)) (by kernel_rfl) ?_ (fun hHeld=>?_)
     ·simp [go_sem, *]
     refine tk 0 (some 37) (.map (some mb)) ?_
     try simp only [pS]
     refine tk 1 (some 38) (.int .i64 2) ?_
     try simp only [pS]
     refine tk 2 (some 39) (.int .i64 0) ?_
     try simp only [pS]
     refine tk 3 (some 40) (.int .i64 0) ?_
     try simp only [pS]
     refine tk 4 (some 41) (.int .i64 2) ?_
     try simp only [pS]
     refine tk 5 (some 42) (.int .i64 0) ?_
     try simp only [pS]
     refine tk 6 (some 43) (.int .i64 2) ?_
     try simp only [pS]
     refine tk 7 (some 44) (.agg #[.int .i64 0,.int .i64 2]) ?_
     try simp only [pS]
     refine wpAnyH_ready (rs:= [8,10]) (by kernel_rfl) (by simp) ?_
     refine AllReadyH.cons rfl (fun K hK=>?_) (AllReadyH.cons rfl (fun K hK=>?_) AllReadyH.nil)
     ·go_simp
      (try dsimp only)
      refine hK.out _ _ ?_ (fun hQ1=>?_)
      ·exact trivial
      clear hK K hHeld
      try simp only [pS]
      refine tk 9 (some 46) (.int .i64 1) ?_
      try simp only [pS]
      refine rd 10 (fun K hK=>?_)
      go_simp
      (try dsimp only)
      refine hK.out _ _ ?_ (fun hQ2=>?_)
      ·(first|exact trivial|((try dsimp only);simp [go_sem, *]))
      clear hK K hQ1
      try simp only [pS]
      refine tk 11 (some 48) (.int .i64 (sn:Int)) ?_
      try simp only [pS]
      refine rd 12 (fun K hK=>?_)
      go_simp
      (try dsimp only)
      refine hK.out _ _ ?_ (fun hQ3=>?_)
      ·(first|exact trivial|((try dsimp only);simp [go_sem, *]))
      clear hK K hQ2
      try simp only [pS]
      refine wpAnyH_done (by kernel_rfl) ?_ _
      go_wp2
      go_roundw
      case rel=>exact⟨3,by omega,by go_num,HMI3,Lib.hid ((HVB.out.drew.drew.kp HKP1.out (by simp;omega)).kp HKP3.out (by simp;omega)),Lib.hid (((show Gr w.heap.size w wr.drew.drew from by(with_reducible (repeat' (first|exact Gr.refl _ _|refine Gr.drew ?_|refine Gr.setCell ?_ ?_ _|refine Gr.alloc ?_ ?_ _|refine Gr.trans ?_ (Gr.mono HG3.out ?_)|omega|(simp;done)|(simp;omega))))).trans (HKP1.out.gr (fun b e=>by cases e;exact hsz1) (by simp;omega))).trans (HKP3.out.gr (fun b e=>by cases e;exact hsz1) (by omega)))⟩
      case measure=>simp [intOf]
     ·go_simp
      (try dsimp only)
      refine hK.out _ _ ?_ (fun hQ1=>?_)
      ·exact trivial
      clear hK K hHeld
      try simp only [pS]
      refine tk 11 (some 48) (.int .i64 (sn:Int)) ?_
      try simp only [pS]
      refine rd 8 (fun K hK=>?_)
      go_simp
      (try dsimp only)
      refine hK.out _ _ ?_ (fun hQ2=>?_)
      ·(first|exact trivial|((try dsimp only);simp [go_sem, *]))
      clear hK K hQ1
      try simp only [pS]
      refine tk 9 (some 46) (.int .i64 1) ?_
      try simp only [pS]
      refine rd 12 (fun K hK=>?_)
      go_simp
      (try dsimp only)
      refine hK.out _ _ ?_ (fun hQ3=>?_)
      ·(first|exact trivial|((try dsimp only);simp [go_sem, *]))
      clear hK K hQ2
      try simp only [pS]
      refine wpAnyH_done (by kernel_rfl) ?_ _
      go_wp2
      go_roundw
      case rel=>exact⟨3,by omega,by go_num,HMI3,Lib.hid ((HVB.out.drew.drew.kp HKP1.out (by simp;omega)).kp HKP3.out (by simp;omega)),Lib.hid (((show Gr w.heap.size w wr.drew.drew from by(with_reducible (repeat' (first|exact Gr.refl _ _|refine Gr.drew ?_|refine Gr.setCell ?_ ?_ _|refine Gr.alloc ?_ ?_ _|refine Gr.trans ?_ (Gr.mono HG3.out ?_)|omega|(simp;done)|(simp;omega))))).trans (HKP1.out.gr (fun b e=>by cases e;exact hsz1) (by simp;omega))).trans (HKP3.out.gr (fun b e=>by cases e;exact hsz1) (by omega)))⟩
      case measure=>simp [intOf]
    ·simp only [show((3:Nat):Int)=3 from rfl]
     go_wp2
     go_roundw
     case rel=>exact⟨1,by omega,by go_num,HMI,HG3⟩
     case measure=>simp [intOf]
  ·obtain ⟨v0,v1,v2⟩:=(HR.out.gr HG2.out hglt).fTri (j:=1) (by simp [sqT]) rfl
   simp [sqT]at v0 v1 v2
   simp only [show((1:Nat):Int)=1 from rfl]
   go_wp2
   have HVB2:=Lib.hid (VB.new wr [.int .i64 0,.int .i64 2,.int .i64 3] 96)
   have HG3:=Lib.hid (show Gr w.heap.size w (wr.alloc (.cells #[.int .i64 0,.int .i64 2,.int .i64 3] 96))from by(with_reducible (repeat' (first|exact Gr.refl _ _|refine Gr.drew ?_|refine Gr.setCell ?_ ?_ _|refine Gr.alloc ?_ ?_ _|refine Gr.trans ?_ (Gr.mono HG2.out ?_)|omega|(simp;done)|(simp;omega)))))
   have HMI2:=Lib.hid (HMI1.out.alloc (.cells #[.int .i64 0,.int .i64 2,.int .i64 3] 96))
   have hml2:mb<wr.heap.size:=hml
   clear HMI1 HG2 hszr hml v0 v1 v2
   generalize wr.alloc (.cells #[.int .i64 0,.int .i64 2,.int .i64 3] 96)=wa at *
   generalize wr.heap.size=tb at *
   go_loopw [26] (fun s wr=> ∃k:Nat,k≤3∧s= .int .i64 k∧Hid (MIR wr mb (RL (3+k)))∧Hid (VB wr tb [.int .i64 0,.int .i64 2,.int .i64 3])∧Hid (Gr w.heap.size w wr)) (fun s _=>3 - (intOf s).toNat)
   case atStart=>exact⟨0,by omega,rfl,HMI2,HVB2,HG3⟩
   case round=>
    clear HVB2 HMI2 HG3
    obtain ⟨k,hk,rfl,HMI,HVB,HG3⟩:=hrel
    have hsz3:=HG3.out.size
    have hvl:=HVB.out.lt
    have hbl:=HMI.out.lt
    obtain ⟨u0,u1,u2,_⟩:=HVB.out.three
    rcases(show k=0∨k=1∨k=2∨k=3 by omega)with rfl|rfl|rfl|rfl
    ·simp only [show((0:Nat):Int)=0 from rfl]
     go_wp2
     refine wp_region_held_drew (S:=(fun w'=>w'.cell? ⟨tb,0,none⟩=some (.int .i64 0)∧w'.cell? ⟨tb,1,none⟩=some (.int .i64 2)∧w'.cell? ⟨tb,2,none⟩=some (.int .i64 3))) (by kernel_rfl) ?_ (fun hHeld=>?_)
     ·simp [go_sem, *]
     refine tk 0 (some 29) (.int .i64 0) ?_
     try simp only [pS]
     refine tk 1 (some 30) (.pointer (some ⟨tb,0,none⟩)) ?_
     try simp only [pS]
     refine tk 2 (some 31) (.int .i64 0) ?_
     try simp only [pS]
     refine tk 3 (some 32) (.int .i64 0) ?_
     try simp only [pS]
     refine tk 4 (some 33) (.int .i64 1) ?_
     try simp only [pS]
     refine tk 5 (some 34) (.int .i64 1) ?_
     try simp only [pS]
     refine tk 6 (some 35) (.pointer (some ⟨tb,1,none⟩)) ?_
     try simp only [pS]
     refine tk 7 (some 36) (.int .i64 2) ?_
     try simp only [pS]
     refine tk 8 (some 9) (.int .i64 0) ?_
     try simp only [pS]
     refine tk 9 (some 10) (.int .i64 2) ?_
     try simp only [pS]
     refine wpAnyH_done (by kernel_rfl) ?_ _
     go_wp2
     have hmi:MIR wr.drew.drew mb (RL 3):=HMI.out
     have hlk:(Instr.lookup 129 (.map (some mb)) (endK 0 2) false).run Tryz.prog wr.drew.drew= .ok (.int .i64 1) (wr.drew.drew):=MI.look_some false hmi keyed_R under_R (zeroInt _) (key:=(endK 0 2)) (v:= .int .i64 1) (keyOf_R (i:=0) (j:=2) (by omega) (by omega)) (by simp [RL,eR])
     obtain ⟨sn,w1,hme,hmi1,hkp1,hsz1,hst⟩:=hmi.entry_old keyed_R under_R (key:=(endK 0 2)) (u:= .int .i64 1) (j:=2) (keyOf_R (i:=0) (j:=2) (by omega) (by omega)) rfl
     have hlk1:(Instr.lookup 129 (.map (some mb)) (endK 0 2) false).run Tryz.prog w1= .ok (.int .i64 1) w1:=MI.look_some false hmi1 keyed_R under_R (zeroInt _) (key:=(endK 0 2)) (v:= .int .i64 1) (keyOf_R (i:=0) (j:=2) (by omega) (by omega)) (by simp [RL,eR])
     obtain ⟨w3,hes,hmi3,hkp3,hsz3⟩:=hst w1 (.int .i64 2) rfl
     have HMI3:=Lib.hid (show MIR w3 mb (RL 4)from hmi3)
     have HKP1:=Lib.hid hkp1
     have HKP3:=Lib.hid hkp3
     have hs1:wr.heap.size≤w1.heap.size:=by rw [hsz1];exact Nat.le_refl _
     clear hmi hmi1 hmi3 hkp1 hkp3 hst hsz1 hsz3
     refine wp_region_held_drew (S:=(fun w'=>True)) (by kernel_rfl) ?_ (fun hHeld=>?_)
     ·simp [go_sem, *]
     refine tk 0 (some 37) (.map (some mb)) ?_
     try simp only [pS]
     refine tk 1 (some 38) (.int .i64 0) ?_
     try simp only [pS]
     refine tk 2 (some 39) (.int .i64 2) ?_
     try simp only [pS]
     refine tk 3 (some 40) (.int .i64 0) ?_
     try simp only [pS]
     refine tk 4 (some 41) (.int .i64 0) ?_
     try simp only [pS]
     refine tk 5 (some 42) (.int .i64 2) ?_
     try simp only [pS]
     refine tk 6 (some 43) (.int .i64 2) ?_
     try simp only [pS]
     refine tk 7 (some 44) (.agg #[.int .i64 0,.int .i64 2]) ?_
     try simp only [pS]
     refine wpAnyH_ready (rs:= [8,10]) (by kernel_rfl) (by simp) ?_
     refine AllReadyH.cons rfl (fun K hK=>?_) (AllReadyH.cons rfl (fun K hK=>?_) AllReadyH.nil)
     ·go_simp
      (try dsimp only)
      refine hK.out _ _ ?_ (fun hQ1=>?_)
      ·exact trivial
      clear hK K hHeld
      try simp only [pS]
      refine tk 9 (some 46) (.int .i64 2) ?_
      try simp only [pS]
      refine rd 10 (fun K hK=>?_)
      go_simp
      (try dsimp only)
      refine hK.out _ _ ?_ (fun hQ2=>?_)
      ·(first|exact trivial|((try dsimp only);simp [go_sem, *]))
      clear hK K hQ1
      try simp only [pS]
      refine tk 11 (some 48) (.int .i64 (sn:Int)) ?_
      try simp only [pS]
      refine rd 12 (fun K hK=>?_)
      go_simp
      (try dsimp only)
      refine hK.out _ _ ?_ (fun hQ3=>?_)
      ·(first|exact trivial|((try dsimp only);simp [go_sem, *]))
      clear hK K hQ2
      try simp only [pS]
      refine wpAnyH_done (by kernel_rfl) ?_ _
      go_wp2
      go_roundw
      case rel=>exact⟨1,by omega,by go_num,HMI3,Lib.hid ((HVB.out.drew.drew.kp HKP1.out (by simp;omega)).kp HKP3.out (by simp;omega)),Lib.hid (((show Gr w.heap.size w wr.drew.drew from by(with_reducible (repeat' (first|exact Gr.refl _ _|refine Gr.drew ?_|refine Gr.setCell ?_ ?_ _|refine Gr.alloc ?_ ?_ _|refine Gr.trans ?_ (Gr.mono HG3.out ?_)|omega|(simp;done)|(simp;omega))))).trans (HKP1.out.gr (fun b e=>by cases e;exact hsz1) (by simp;omega))).trans (HKP3.out.gr (fun b e=>by cases e;exact hsz1) (by omega)))⟩
      case measure=>simp [intOf]
     ·go_simp
      (try dsimp only)
      refine hK.out _ _ ?_ (fun hQ1=>?_)
      ·exact trivial
      clear hK K hHeld
      try simp only [pS]
      refine tk 11 (some 48) (.int .i64 (sn:Int)) ?_
      try simp only [pS]
      refine rd 8 (fun K hK=>?_)
      go_simp
      (try dsimp only)
      refine hK.out _ _ ?_ (fun hQ2=>?_)
      ·(first|exact trivial|((try dsimp only);simp [go_sem, *]))
      clear hK K hQ1
      try simp only [pS]
      refine tk 9 (some 46) (.int .i64 2) ?_
      try simp only [pS]
      refine rd 12 (fun K hK=>?_)
      go_simp
      (try dsimp only)
      refine hK.out _ _ ?_ (fun hQ3=>?_)
      ·(first|exact trivial|((try dsimp only);simp [go_sem, *]))
      clear hK K hQ2
      try simp only [pS]
      refine wpAnyH_done (by kernel_rfl) ?_ _
      go_wp2
      go_roundw
      case rel=>exact⟨1,by omega,by go_num,HMI3,Lib.hid ((HVB.out.drew.drew.kp HKP1.out (by simp;omega)).kp HKP3.out (by simp;omega)),Lib.hid (((show Gr w.heap.size w wr.drew.drew from by(with_reducible (repeat' (first|exact Gr.refl _ _|refine Gr.drew ?_|refine Gr.setCell ?_ ?_ _|refine Gr.alloc ?_ ?_ _|refine Gr.trans ?_ (Gr.mono HG3.out ?_)|omega|(simp;done)|(simp;omega))))).trans (HKP1.out.gr (fun b e=>by cases e;exact hsz1) (by simp;omega))).trans (HKP3.out.gr (fun b e=>by cases e;exact hsz1) (by omega)))⟩
      case measure=>simp [intOf]
    ·simp only [show((1:Nat):Int)=1 from rfl]
     go_wp2
     refine wp_region_held_drew (S:=(fun w'=>w'.cell? ⟨tb,0,none⟩=some (.int .i64 0)∧w'.cell? ⟨tb,1,none⟩=some (.int .i64 2)∧w'.cell? ⟨tb,2,none⟩=some (.int .i64 3))) (by kernel_rfl) ?_ (fun hHeld=>?_)
     ·simp [go_sem, *]
     refine tk 0 (some 29) (.int .i64 1) ?_
     try simp only [pS]
     refine tk 1 (some 30) (.pointer (some ⟨tb,1,none⟩)) ?_
     try simp only [pS]
     refine tk 2 (some 31) (.int .i64 2) ?_
     try simp only [pS]
     refine tk 3 (some 32) (.int .i64 1) ?_
     try simp only [pS]
     refine tk 4 (some 33) (.int .i64 2) ?_
     try simp only [pS]
     refine tk 5 (some 34) (.int .i64 2) ?_
     try simp only [pS]
     refine tk 6 (some 35) (.pointer (some ⟨tb,2,none⟩)) ?_
     try simp only [pS]
     refine tk 7 (some 36) (.int .i64 3) ?_
     try simp only [pS]
     refine tk 8 (some 9) (.int .i64 2) ?_
     try simp only [pS]
     refine tk 9 (some 10) (.int .i64 3) ?_
     try simp only [pS]
     refine wpAnyH_done (by kernel_rfl) ?_ _
     go_wp2
     have hmi:MIR wr.drew.drew mb (RL 4):=HMI.out
     have hlk:(Instr.lookup 129 (.map (some mb)) (endK 2 3) false).run Tryz.prog wr.drew.drew= .ok (.int .i64 0) (wr.drew.drew):=MI.look_none false hmi keyed_R under_R (zeroInt _) (key:=(endK 2 3)) (keyOf_R (i:=2) (j:=3) (by omega) (by omega)) (by simp [RL,eR,endK])
     obtain ⟨sn,w1,hme,hmi1,hkp1,hsz1,hst⟩:=hmi.entry_new keyed_R under_R zeroInt (key:=(endK 2 3)) (keyOf_R (i:=2) (j:=3) (by omega) (by omega)) (by simp [RL,eR,endK]) (by simp [RL,maxLen])
     have hlk1:(Instr.lookup 129 (.map (some mb)) (endK 2 3) false).run Tryz.prog w1= .ok (.int .i64 0) w1:=MI.look_some false hmi1 keyed_R under_R (zeroInt _) (key:=(endK 2 3)) (v:= .int .i64 0) (keyOf_R (i:=2) (j:=3) (by omega) (by omega)) (by simp [RL,eR])
     obtain ⟨w3,hes,hmi3,hkp3,hsz3⟩:=hst w1 (.int .i64 1) rfl
     have HMI3:=Lib.hid (show MIR w3 mb (RL 5)from hmi3)
     have HKP1:=Lib.hid hkp1
     have HKP3:=Lib.hid hkp3
     have hs1:wr.heap.size≤w1.heap.size:=by rw [hsz1];exact Nat.le_refl _
     clear hmi hmi1 hmi3 hkp1 hkp3 hst hsz1 hsz3
     refine wp_region_held_drew (S:=(fun w'=>True)) (by kernel_rfl) ?_ (fun hHeld=>?_)
     ·simp [go_sem, *]
     refine tk 0 (some 37) (.map (some mb)) ?_
     try simp only [pS]
     refine tk 1 (some 38) (.int .i64 2) ?_
     try simp only [pS]
     refine tk 2 (some 39) (.int .i64 3) ?_
     try simp only [pS]
     refine tk 3 (some 40) (.int .i64 2) ?_
     try simp only [pS]
     refine tk 4 (some 41) (.int .i64 2) ?_
     try simp only [pS]
     refine tk 5 (some 42) (.int .i64 3) ?_
     try simp only [pS]
     refine tk 6 (some 43) (.int .i64 3) ?_
     try simp only [pS]
     refine tk 7 (some 44) (.agg #[.int .i64 2,.int .i64 3]) ?_
     try simp only [pS]
     refine wpAnyH_ready (rs:= [8,10]) (by kernel_rfl) (by simp) ?_
     refine AllReadyH.cons rfl (fun K hK=>?_) (AllReadyH.cons rfl (fun K hK=>?_) AllReadyH.nil)
     ·go_simp
      (try dsimp only)
      refine hK.out _ _ ?_ (fun hQ1=>?_)
      ·exact trivial
      clear hK K hHeld
      try simp only [pS]
      refine tk 9 (some 46) (.int .i64 1) ?_
      try simp only [pS]
      refine rd 10 (fun K hK=>?_)
      go_simp
      (try dsimp only)
      refine hK.out _ _ ?_ (fun hQ2=>?_)
      ·(first|exact trivial|((try dsimp only);simp [go_sem, *]))
      clear hK K hQ1
      try simp only [pS]
      refine tk 11 (some 48) (.int .i64 (sn:Int)) ?_
      try simp only [pS]
      refine rd 12 (fun K hK=>?_)
      go_simp
      (try dsimp only)
      refine hK.out _ _ ?_ (fun hQ3=>?_)
      ·(first|exact trivial|((try dsimp only);simp [go_sem, *]))
      clear hK K hQ2
      try simp only [pS]
      refine wpAnyH_done (by kernel_rfl) ?_ _
      go_wp2
      go_roundw
      case rel=>exact⟨2,by omega,by go_num,HMI3,Lib.hid ((HVB.out.drew.drew.kp HKP1.out (by simp;omega)).kp HKP3.out (by simp;omega)),Lib.hid (((show Gr w.heap.size w wr.drew.drew from by(with_reducible (repeat' (first|exact Gr.refl _ _|refine Gr.drew ?_|refine Gr.setCell ?_ ?_ _|refine Gr.alloc ?_ ?_ _|refine Gr.trans ?_ (Gr.mono HG3.out ?_)|omega|(simp;done)|(simp;omega))))).trans (HKP1.out.gr (fun b e=>by cases e;exact hsz1) (by simp;omega))).trans (HKP3.out.gr (fun b e=>by cases e;exact hsz1) (by omega)))⟩
      case measure=>simp [intOf]
     ·go_simp
      (try dsimp only)
      refine hK.out _ _ ?_ (fun hQ1=>?_)
      ·exact trivial
      clear hK K hHeld
      try simp only [pS]
      refine tk 11 (some 48) (.int .i64 (sn:Int)) ?_
      try simp only [pS]
      refine rd 8 (fun K hK=>?_)
      go_simp
      (try dsimp only)
      refine hK.out _ _ ?_ (fun hQ2=>?_)
      ·(first|exact trivial|((try dsimp only);simp [go_sem, *]))
      clear hK K hQ1
      try simp only [pS]
      refine tk 9 (some 46) (.int .i64 1) ?_
      try simp only [pS]
      refine rd 12 (fun K hK=>?_)
      go_simp
      (try dsimp only)
      refine hK.out _ _ ?_ (fun hQ3=>?_)
      ·(first|exact trivial|((try dsimp only);simp [go_sem, *]))
      clear hK K hQ2
      try simp only [pS]
      refine wpAnyH_done (by kernel_rfl) ?_ _
      go_wp2
      go_roundw
      case rel=>exact⟨2,by omega,by go_num,HMI3,Lib.hid ((HVB.out.drew.drew.kp HKP1.out (by simp;omega)).kp HKP3.out (by simp;omega)),Lib.hid (((show Gr w.heap.size w wr.drew.drew from by(with_reducible (repeat' (first|exact Gr.refl _ _|refine Gr.drew ?_|refine Gr.setCell ?_ ?_ _|refine Gr.alloc ?_ ?_ _|refine Gr.trans ?_ (Gr.mono HG3.out ?_)|omega|(simp;done)|(simp;omega))))).trans (HKP1.out.gr (fun b e=>by cases e;exact hsz1) (by simp;omega))).trans (HKP3.out.gr (fun b e=>by cases e;exact hsz1) (by omega)))⟩
      case measure=>simp [intOf]
    ·simp only [show((2:Nat):Int)=2 from rfl]
     go_wp2
     refine wp_region_held_drew (S:=(fun w'=>w'.cell? ⟨tb,0,none⟩=some (.int .i64 0)∧w'.cell? ⟨tb,1,none⟩=some (.int .i64 2)∧w'.cell? ⟨tb,2,none⟩=some (.int .i64 3))) (by kernel_rfl) ?_ (fun hHeld=>?_)
     ·simp [go_sem, *]
     refine tk 0 (some 29) (.int .i64 2) ?_
     try simp only [pS]
     refine tk 1 (some 30) (.pointer (some ⟨tb,2,none⟩)) ?_
     try simp only [pS]
     refine tk 2 (some 31) (.int .i64 3) ?_
     try simp only [pS]
     refine tk 3 (some 32) (.int .i64 2) ?_
     try simp only [pS]
     refine tk 4 (some 33) (.int .i64 3) ?_
     try simp only [pS]
     refine tk 5 (some 34) (.int .i64 0) ?_
     try simp only [pS]
     refine tk 6 (some 35) (.pointer (some ⟨tb,0,none⟩)) ?_
     try simp only [pS]
     refine tk 7 (some 36) (.int .i64 0) ?_
     try simp only [pS]
     refine tk 8 (some 9) (.int .i64 3) ?_
     try simp only [pS]
     refine tk 9 (some 10) (.int .i64 0) ?_
     try simp only [pS]
     refine wpAnyH_done (by kernel_rfl) ?_ _
     go_wp2
     have hmi:MIR wr.drew.drew mb (RL 5):=HMI.out
     have hlk:(Instr.lookup 129 (.map (some mb)) (endK 0 3) false).run Tryz.prog wr.drew.drew= .ok (.int .i64 0) (wr.drew.drew):=MI.look_none false hmi keyed_R under_R (zeroInt _) (key:=(endK 0 3)) (keyOf_R (i:=0) (j:=3) (by omega) (by omega)) (by simp [RL,eR,endK])
     obtain ⟨sn,w1,hme,hmi1,hkp1,hsz1,hst⟩:=hmi.entry_new keyed_R under_R zeroInt (key:=(endK 0 3)) (keyOf_R (i:=0) (j:=3) (by omega) (by omega)) (by simp [RL,eR,endK]) (by simp [RL,maxLen])
     have hlk1:(Instr.lookup 129 (.map (some mb)) (endK 0 3) false).run Tryz.prog w1= .ok (.int .i64 0) w1:=MI.look_some false hmi1 keyed_R under_R (zeroInt _) (key:=(endK 0 3)) (v:= .int .i64 0) (keyOf_R (i:=0) (j:=3) (by omega) (by omega)) (by simp [RL,eR])
     obtain ⟨w3,hes,hmi3,hkp3,hsz3⟩:=hst w1 (.int .i64 1) rfl
     have HMI3:=Lib.hid (show MIR w3 mb (RL 6)from hmi3)
     have HKP1:=Lib.hid hkp1
     have HKP3:=Lib.hid hkp3
     have hs1:wr.heap.size≤w1.heap.size:=by rw [hsz1];exact Nat.le_refl _
     clear hmi hmi1 hmi3 hkp1 hkp3 hst hsz1 hsz3
     refine wp_region_held_drew (S:=(fun w'=>True)) (by kernel_rfl) ?_ (fun hHeld=>?_)
     ·simp [go_sem, *]
     refine tk 0 (some 37) (.map (some mb)) ?_
     try simp only [pS]
     refine tk 1 (some 38) (.int .i64 3) ?_
     try simp only [pS]
     refine tk 2 (some 39) (.int .i64 0) ?_
     try simp only [pS]
     refine tk 3 (some 40) (.int .i64 0) ?_
     try simp only [pS]
     refine tk 4 (some 41) (.int .i64 3) ?_
     try simp only [pS]
     refine tk 5 (some 42) (.int .i64 0) ?_
     try simp only [pS]
     refine tk 6 (some 43) (.int .i64 3) ?_
     try simp only [pS]
     refine tk 7 (some 44) (.agg #[.int .i64 0,.int .i64 3]) ?_
     try simp only [pS]
     refine wpAnyH_ready (rs:= [8,10]) (by kernel_rfl) (by simp) ?_
     refine AllReadyH.cons rfl (fun K hK=>?_) (AllReadyH.cons rfl (fun K hK=>?_) AllReadyH.nil)
     ·go_simp
      (try dsimp only)
      refine hK.out _ _ ?_ (fun hQ1=>?_)
      ·exact trivial
      clear hK K hHeld
      try simp only [pS]
      refine tk 9 (some 46) (.int .i64 1) ?_
      try simp only [pS]
      refine rd 10 (fun K hK=>?_)
      go_simp
      (try dsimp only)
      refine hK.out _ _ ?_ (fun hQ2=>?_)
      ·(first|exact trivial|((try dsimp only);simp [go_sem, *]))
      clear hK K hQ1
      try simp only [pS]
      refine tk 11 (some 48) (.int .i64 (sn:Int)) ?_
      try simp only [pS]
      refine rd 12 (fun K hK=>?_)
      go_simp
      (try dsimp only)
      refine hK.out _ _ ?_ (fun hQ3=>?_)
      ·(first|exact trivial|((try dsimp only);simp [go_sem, *]))
      clear hK K hQ2
      try simp only [pS]
      refine wpAnyH_done (by kernel_rfl) ?_ _
      go_wp2
      go_roundw
      case rel=>exact⟨3,by omega,by go_num,HMI3,Lib.hid ((HVB.out.drew.drew.kp HKP1.out (by simp;omega)).kp HKP3.out (by simp;omega)),Lib.hid (((show Gr w.heap.size w wr.drew.drew from by(with_reducible (repeat' (first|exact Gr.refl _ _|refine Gr.drew ?_|refine Gr.setCell ?_ ?_ _|refine Gr.alloc ?_ ?_ _|refine Gr.trans ?_ (Gr.mono HG3.out ?_)|omega|(simp;done)|(simp;omega))))).trans (HKP1.out.gr (fun b e=>by cases e;exact hsz1) (by simp;omega))).trans (HKP3.out.gr (fun b e=>by cases e;exact hsz1) (by omega)))⟩
      case measure=>simp [intOf]
     ·go_simp
      (try dsimp only)
      refine hK.out _ _ ?_ (fun hQ1=>?_)
      ·exact trivial
      clear hK K hHeld
      try simp only [pS]
      refine tk 11 (some 48) (.int .i64 (sn:Int)) ?_
      try simp only [pS]
      refine rd 8 (fun K hK=>?_)
      go_simp
      (try dsimp only)
      refine hK.out _ _ ?_ (fun hQ2=>?_)
      ·(first|exact trivial|((try dsimp only);simp [go_sem, *]))
      clear hK K hQ1
      try simp only [pS]
      refine tk 9 (some 46) (.int .i64 1) ?_
      try simp only [pS]
      refine rd 12 (fun K hK=>?_)
      go_simp
      (try dsimp only)
      refine hK.out _ _ ?_ (fun hQ3=>?_)
      ·(first|exact trivial|((try dsimp only);simp [go_sem, *]))
      clear hK K hQ2
      try simp only [pS]
      refine wpAnyH_done (by kernel_rfl) ?_ _
      go_wp2
      go_roundw
      case rel=>exact⟨3,by omega,by go_num,HMI3,Lib.hid ((HVB.out.drew.drew.kp HKP1.out (by simp;omega)).kp HKP3.out (by simp;omega)),Lib.hid (((show Gr w.heap.size w wr.drew.drew from by(with_reducible (repeat' (first|exact Gr.refl _ _|refine Gr.drew ?_|refine Gr.setCell ?_ ?_ _|refine Gr.alloc ?_ ?_ _|refine Gr.trans ?_ (Gr.mono HG3.out ?_)|omega|(simp;done)|(simp;omega))))).trans (HKP1.out.gr (fun b e=>by cases e;exact hsz1) (by simp;omega))).trans (HKP3.out.gr (fun b e=>by cases e;exact hsz1) (by omega)))⟩
      case measure=>simp [intOf]
    ·simp only [show((3:Nat):Int)=3 from rfl]
     go_wp2
     go_roundw
     case rel=>exact⟨2,by omega,by go_num,HMI,HG3⟩
     case measure=>simp [intOf]
  ·have HMI6:=Lib.hid (show MIR wr mb (RL 6)from HMI1.out)
   clear HMI1
   simp only [show((2:Nat):Int)=2 from rfl]
   go_wp2_with fail
   refine(ms_edges _ wr (HS.out.gr HG2.out)).mono ?_
   rintro e w2 ⟨v2,rfl,hS2,hg2⟩
   obtain ⟨ge,ce,rfl,_,_,_,hshe,hRe⟩:=hS2.block (by simp [edS])
   simp only [edS,List.length_cons,List.length_nil,Nat.zero_add,Nat.reduceAdd]
   have hgel:=hshe.lt
   have HRE:=Lib.hid hRe
   have HG2:=Lib.hid (HG2.out.trans (hg2.mono hszr))
   have hszw:=HG2.out.size
   have HMI7:=Lib.hid (HMI6.out.gr hg2 hml)
   have hsz2:=hg2.size
   clear hS2 hg2 hshe hRe HMI6
   go_wp2
   go_loopw [11,54] (fun p s wr=> ∃j:Nat,j≤5∧s= .int .i64 j∧Hid (SL triC 3 87 wr w2.heap.size p (SDn j))∧Hid (Gr w2.heap.size w2 wr)) (fun _ s _=>5 - (intOf s).toNat)
   case atStart=>exact⟨0,by omega,rfl,Lib.hid SL.nil,Lib.hid (Gr.refl _ _)⟩
   case round=>
    obtain ⟨j,hj,rfl,HP,HG3⟩:=hrel
    have hsz3:=HG3.out.size
    obtain ⟨pa,pc,rfl⟩:=HP.out.at
    have HMI:=Lib.hid (HMI7.out.gr HG3.out (by omega))
    rcases(show j=0∨j=1∨j=2∨j=3∨j=4∨j=5 by omega)with rfl|rfl|rfl|rfl|rfl|rfl
    ·obtain ⟨v0,v1,v2,v3⟩:=(HRE.out.gr HG3.out hgel).fE (j:=0) (by simp [edS]) rfl
     simp [edS]at v0 v1 v2 v3
     simp only [show((0:Nat):Int)=0 from rfl]
     go_wp2_with (first
      | (at_lookup;refine wpM_look _ (b:=mb) (.int .i64 1) false rfl _ _ rfl rfl (MI.look_some false (HMI.out.gr (B:=wr.heap.size) (by(with_reducible (repeat' (first|exact Gr.refl _ _|refine Gr.drew ?_|refine Gr.setCell ?_ ?_ _|refine Gr.alloc ?_ ?_ _|omega|(simp;done)|(simp;omega))))) (by omega)) keyed_R under_R (zeroInt _) (key:=(endK 0 1)) (v:= .int .i64 1) (keyOf_R (i:=0) (j:=1) (by omega) (by omega)) (by simp [RL,eR])) ?_)
      | (at_builtin;refine wpList_appS _ rfl _ _ 61 rfl w2.heap.size i0 _ 24 Tryz.underlying61 HI.out.1 HI.out.2.1 HI.out.2.2.1 HI.out.2.2.2 rfl (by decide) triC_len triC_one _ (SDn 0) rfl (HP.out.gr (by(with_reducible (repeat' (first|exact Gr.refl _ _|refine Gr.drew ?_|refine Gr.setCell ?_ ?_ _|refine Gr.alloc ?_ ?_ _|omega|(simp;done)|(simp;omega)))))) (wr.heap.size+1) _ [(0,1,0)] 1 rfl rfl (RC.new1' (by simp) rfl) (by simp [SDn,maxLen]) (by simp [SDn]) (by simp;omega) ?_;intro v' w4 hS4 hkp4 hown;have HS4:=Lib.hid (And.intro hS4 hkp4);clear hS4 hkp4 hown))
     go_roundw
     case rel=>exact⟨1,by omega,by go_num,Lib.hid HS4.out.1,Lib.hid (HG3.out.trans ((show Gr w2.heap.size wr _ from by(with_reducible (repeat' (first|exact Gr.refl _ _|refine Gr.drew ?_|refine Gr.setCell ?_ ?_ _|refine Gr.alloc ?_ ?_ _|omega|(simp;done)|(simp;omega))))).trans (HS4.out.2.gr (fun b e=>HP.out.own_ge e) (by simp;omega))))⟩
     case measure=>simp [intOf]
    ·obtain ⟨v0,v1,v2,v3⟩:=(HRE.out.gr HG3.out hgel).fE (j:=1) (by simp [edS]) rfl
     simp [edS]at v0 v1 v2 v3
     simp only [show((1:Nat):Int)=1 from rfl]
     go_wp2_with (first
      | (at_lookup;refine wpM_look _ (b:=mb) (.int .i64 2) false rfl _ _ rfl rfl (MI.look_some false (HMI.out.gr (B:=wr.heap.size) (by(with_reducible (repeat' (first|exact Gr.refl _ _|refine Gr.drew ?_|refine Gr.setCell ?_ ?_ _|refine Gr.alloc ?_ ?_ _|omega|(simp;done)|(simp;omega))))) (by omega)) keyed_R under_R (zeroInt _) (key:=(endK 0 2)) (v:= .int .i64 2) (keyOf_R (i:=0) (j:=2) (by omega) (by omega)) (by simp [RL,eR])) ?_)
      | (at_builtin;refine wpList_appS _ rfl _ _ 61 rfl w2.heap.size i0 _ 24 Tryz.underlying61 HI.out.1 HI.out.2.1 HI.out.2.2.1 HI.out.2.2.2 rfl (by decide) triC_len triC_one _ (SDn 1) rfl (HP.out.gr (by(with_reducible (repeat' (first|exact Gr.refl _ _|refine Gr.drew ?_|refine Gr.setCell ?_ ?_ _|refine Gr.alloc ?_ ?_ _|omega|(simp;done)|(simp;omega)))))) (wr.heap.size+1) _ [(0,2,0)] 1 rfl rfl (RC.new1' (by simp) rfl) (by simp [SDn,maxLen]) (by simp [SDn]) (by simp;omega) ?_;intro v' w4 hS4 hkp4 hown;have HS4:=Lib.hid (And.intro hS4 hkp4);clear hS4 hkp4 hown))
     go_roundw
     case rel=>exact⟨2,by omega,by go_num,Lib.hid (HP.out.gr (by(with_reducible (repeat' (first|exact Gr.refl _ _|refine Gr.drew ?_|refine Gr.setCell ?_ ?_ _|refine Gr.alloc ?_ ?_ _|omega|(simp;done)|(simp;omega)))))),Lib.hid (HG3.out.trans (by(with_reducible (repeat' (first|exact Gr.refl _ _|refine Gr.drew ?_|refine Gr.setCell ?_ ?_ _|refine Gr.alloc ?_ ?_ _|omega|(simp;done)|(simp;omega))))))⟩
     case measure=>simp [intOf]
    ·obtain ⟨v0,v1,v2,v3⟩:=(HRE.out.gr HG3.out hgel).fE (j:=2) (by simp [edS]) rfl
     simp [edS]at v0 v1 v2 v3
     simp only [show((2:Nat):Int)=2 from rfl]
     go_wp2_with (first
      | (at_lookup;refine wpM_look _ (b:=mb) (.int .i64 1) false rfl _ _ rfl rfl (MI.look_some false (HMI.out.gr (B:=wr.heap.size) (by(with_reducible (repeat' (first|exact Gr.refl _ _|refine Gr.drew ?_|refine Gr.setCell ?_ ?_ _|refine Gr.alloc ?_ ?_ _|omega|(simp;done)|(simp;omega))))) (by omega)) keyed_R under_R (zeroInt _) (key:=(endK 0 3)) (v:= .int .i64 1) (keyOf_R (i:=0) (j:=3) (by omega) (by omega)) (by simp [RL,eR])) ?_)
      | (at_builtin;refine wpList_appS _ rfl _ _ 61 rfl w2.heap.size i0 _ 24 Tryz.underlying61 HI.out.1 HI.out.2.1 HI.out.2.2.1 HI.out.2.2.2 rfl (by decide) triC_len triC_one _ (SDn 2) rfl (HP.out.gr (by(with_reducible (repeat' (first|exact Gr.refl _ _|refine Gr.drew ?_|refine Gr.setCell ?_ ?_ _|refine Gr.alloc ?_ ?_ _|omega|(simp;done)|(simp;omega)))))) (wr.heap.size+1) _ [(0,3,0)] 1 rfl rfl (RC.new1' (by simp) rfl) (by simp [SDn,maxLen]) (by simp [SDn]) (by simp;omega) ?_;intro v' w4 hS4 hkp4 hown;have HS4:=Lib.hid (And.intro hS4 hkp4);clear hS4 hkp4 hown))
     go_roundw
     case rel=>exact⟨3,by omega,by go_num,Lib.hid HS4.out.1,Lib.hid (HG3.out.trans ((show Gr w2.heap.size wr _ from by(with_reducible (repeat' (first|exact Gr.refl _ _|refine Gr.drew ?_|refine Gr.setCell ?_ ?_ _|refine Gr.alloc ?_ ?_ _|omega|(simp;done)|(simp;omega))))).trans (HS4.out.2.gr (fun b e=>HP.out.own_ge e) (by simp;omega))))⟩
     case measure=>simp [intOf]
    ·obtain ⟨v0,v1,v2,v3⟩:=(HRE.out.gr HG3.out hgel).fE (j:=3) (by simp [edS]) rfl
     simp [edS]at v0 v1 v2 v3
     simp only [show((3:Nat):Int)=3 from rfl]
     go_wp2_with (first
      | (at_lookup;refine wpM_look _ (b:=mb) (.int .i64 1) false rfl _ _ rfl rfl (MI.look_some false (HMI.out.gr (B:=wr.heap.size) (by(with_reducible (repeat' (first|exact Gr.refl _ _|refine Gr.drew ?_|refine Gr.setCell ?_ ?_ _|refine Gr.alloc ?_ ?_ _|omega|(simp;done)|(simp;omega))))) (by omega)) keyed_R under_R (zeroInt _) (key:=(endK 1 2)) (v:= .int .i64 1) (keyOf_R (i:=1) (j:=2) (by omega) (by omega)) (by simp [RL,eR])) ?_)
      | (at_builtin;refine wpList_appS _ rfl _ _ 61 rfl w2.heap.size i0 _ 24 Tryz.underlying61 HI.out.1 HI.out.2.1 HI.out.2.2.1 HI.out.2.2.2 rfl (by decide) triC_len triC_one _ (SDn 3) rfl (HP.out.gr (by(with_reducible (repeat' (first|exact Gr.refl _ _|refine Gr.drew ?_|refine Gr.setCell ?_ ?_ _|refine Gr.alloc ?_ ?_ _|omega|(simp;done)|(simp;omega)))))) (wr.heap.size+1) _ [(1,2,0)] 1 rfl rfl (RC.new1' (by simp) rfl) (by simp [SDn,maxLen]) (by simp [SDn]) (by simp;omega) ?_;intro v' w4 hS4 hkp4 hown;have HS4:=Lib.hid (And.intro hS4 hkp4);clear hS4 hkp4 hown))
     go_roundw
     case rel=>exact⟨4,by omega,by go_num,Lib.hid HS4.out.1,Lib.hid (HG3.out.trans ((show Gr w2.heap.size wr _ from by(with_reducible (repeat' (first|exact Gr.refl _ _|refine Gr.drew ?_|refine Gr.setCell ?_ ?_ _|refine Gr.alloc ?_ ?_ _|omega|(simp;done)|(simp;omega))))).trans (HS4.out.2.gr (fun b e=>HP.out.own_ge e) (by simp;omega))))⟩
     case measure=>simp [intOf]
    ·obtain ⟨v0,v1,v2,v3⟩:=(HRE.out.gr HG3.out hgel).fE (j:=4) (by simp [edS]) rfl
     simp [edS]at v0 v1 v2 v3
     simp only [show((4:Nat):Int)=4 from rfl]
     go_wp2_with (first
      | (at_lookup;refine wpM_look _ (b:=mb) (.int .i64 1) false rfl _ _ rfl rfl (MI.look_some false (HMI.out.gr (B:=wr.heap.size) (by(with_reducible (repeat' (first|exact Gr.refl _ _|refine Gr.drew ?_|refine Gr.setCell ?_ ?_ _|refine Gr.alloc ?_ ?_ _|omega|(simp;done)|(simp;omega))))) (by omega)) keyed_R under_R (zeroInt _) (key:=(endK 2 3)) (v:= .int .i64 1) (keyOf_R (i:=2) (j:=3) (by omega) (by omega)) (by simp [RL,eR])) ?_)
      | (at_builtin;refine wpList_appS _ rfl _ _ 61 rfl w2.heap.size i0 _ 24 Tryz.underlying61 HI.out.1 HI.out.2.1 HI.out.2.2.1 HI.out.2.2.2 rfl (by decide) triC_len triC_one _ (SDn 4) rfl (HP.out.gr (by(with_reducible (repeat' (first|exact Gr.refl _ _|refine Gr.drew ?_|refine Gr.setCell ?_ ?_ _|refine Gr.alloc ?_ ?_ _|omega|(simp;done)|(simp;omega)))))) (wr.heap.size+1) _ [(2,3,0)] 1 rfl rfl (RC.new1' (by simp) rfl) (by simp [SDn,maxLen]) (by simp [SDn]) (by simp;omega) ?_;intro v' w4 hS4 hkp4 hown;have HS4:=Lib.hid (And.intro hS4 hkp4);clear hS4 hkp4 hown))
     go_roundw
     case rel=>exact⟨5,by omega,by go_num,Lib.hid HS4.out.1,Lib.hid (HG3.out.trans ((show Gr w2.heap.size wr _ from by(with_reducible (repeat' (first|exact Gr.refl _ _|refine Gr.drew ?_|refine Gr.setCell ?_ ?_ _|refine Gr.alloc ?_ ?_ _|omega|(simp;done)|(simp;omega))))).trans (HS4.out.2.gr (fun b e=>HP.out.own_ge e) (by simp;omega))))⟩
     case measure=>simp [intOf]
    ·simp only [show((5:Nat):Int)=5 from rfl]
     go_wp2_with fail
     refine(clip_Side (SDn 5) _ w2.heap.size wr HP.out.sr).mono ?_
     rintro e w5 ⟨v5,rfl,hS5,hg5⟩
     have HS5:=Lib.hid (And.intro hS5 hg5)
     clear hS5 hg5
     go_wp2
     go_ret
     exact⟨v5,rfl,HS5.out.1.mono (by omega),(HG2.out.trans (HG3.out.mono (by omega))).trans (HS5.out.2.mono (by omega))⟩
end Go.Proofs.YtmelogdhllhjiaaGreat
