/-
  Part 27 of the proof: Edges.
-/
import Derived.Test.YtmelogdhllhjiaaGreatJ25
import Derived.Test.YtmelogdhllhjiaaGreatJ26
set_option linter.unusedSimpArgs false
set_option linter.unusedVariables false
namespace Go.Proofs.YtmelogdhllhjiaaGreat
open Go.RowKit Gus Go.Maps
set_option maxRecDepth 20000 in
set_option maxHeartbeats 8000000 in
theorem ms_edges (v:Value) (w:World) (hS:SR triC 3 96 w 0 v sqT):Calls Tryz.prog 71 #[v] w (fun e w'=> ∃v',e= .returned v'∧SR eC 4 135 w' w.heap.size v' edS∧Gr w.heap.size w w'):=by
 obtain ⟨g,cap,rfl,_,hcap,hcm,hsh,hR⟩:=hS.block (by simp [sqT])
 have hglt:=hsh.lt
 have HR:=Lib.hid hR
 clear hS hsh hR
 simp only [sqT,List.length_cons,List.length_nil]at hcap ⊢
 have hmm:= @run_makeMap Tryz.prog
 obtain ⟨i0,hi,hz0,hz1,hz2⟩:=info_parts info_bEdge
 have hmk:∀W:World,(Instr.makeSlice 132 (.int .i64 0) (.int .i64 ((EL 6).length:Int))).run Tryz.prog W= .ok (.slice (some ⟨W.heap.size,0,none⟩) 0 5) (W.alloc (.cells (madeCells (eV ⟨0,0,0,0⟩).cells 20) 135)):=fun W=>by
  have h:=run_make_rowN 132 135 i0 _ Tryz.underlying132 hi hz0 .i64 .i64 0 5 (by omega) (by rw [hz2];omega) (by omega) W
  rw [hz1]at h
  exact h
 have HI:=Lib.hid (And.intro hi (And.intro hz0 (And.intro hz1 hz2)))
 clear hi hz0 hz1 hz2
 have hw1:IntKind.i64.wrap 1=1:=by decide
 have hw2:IntKind.i64.wrap 2=2:=by decide
 have hw3:IntKind.i64.wrap 3=3:=by decide
 have hw0:IntKind.i64.wrap 0=0:=by decide
 go_enter Tryz.func71,Tryz.ntmps71
 go_wp2
 have hmi0:MIE (w.alloc (.map #[] 0)) w.heap.size (EL 0):=MI.new w _ _
 have HMI0:=Lib.hid hmi0
 clear hmi0
 go_loopw [18] (fun s wr=> ∃n:Nat,n≤2∧s= .int .i64 n∧Hid (MIE wr w.heap.size (EL (3*n)))∧Hid (Gr w.heap.size w wr)) (fun s _=>2 - (intOf s).toNat)
 case atStart=>exact⟨0,by omega,rfl,HMI0,Lib.hid (by(with_reducible (repeat' (first|exact Gr.refl _ _|refine Gr.drew ?_|refine Gr.setCell ?_ ?_ _|refine Gr.alloc ?_ ?_ _|omega|(simp;done)|(simp;omega)))))⟩
 case round=>
  obtain ⟨n,hn,rfl,HMI1,HG1⟩:=hrel
  have hsz1:=HG1.out.size
  have hml:=HMI1.out.lt
  rcases(show n=0∨n=1∨n=2 by omega)with rfl|rfl|rfl
  ·obtain ⟨v0,v1,v2⟩:=(HR.out.gr HG1.out hglt).fTri (j:=0) (by simp [sqT]) rfl
   simp [sqT]at v0 v1 v2
   simp only [show((0:Nat):Int)=0 from rfl]
   go_wp2
   have HVB2:=Lib.hid (VB.new wr [.int .i64 0,.int .i64 1,.int .i64 2] 96)
   have HG2:=Lib.hid (show Gr w.heap.size w (wr.alloc (.cells #[.int .i64 0,.int .i64 1,.int .i64 2] 96))from by(with_reducible (repeat' (first|exact Gr.refl _ _|refine Gr.drew ?_|refine Gr.setCell ?_ ?_ _|refine Gr.alloc ?_ ?_ _|refine Gr.trans ?_ (Gr.mono HG1.out ?_)|omega|(simp;done)|(simp;omega)))))
   have HMI2:=Lib.hid (HMI1.out.alloc (.cells #[.int .i64 0,.int .i64 1,.int .i64 2] 96))
   have hml2:w.heap.size<wr.heap.size:=hml
   clear HMI1 HG1 hsz1 hml v0 v1 v2
   generalize wr.alloc (.cells #[.int .i64 0,.int .i64 1,.int .i64 2] 96)=wa at *
   generalize wr.heap.size=tb at *
   go_loopw [23] (fun s wr=> ∃k:Nat,k≤3∧s= .int .i64 k∧Hid (MIE wr w.heap.size (EL (0+k)))∧Hid (VB wr tb [.int .i64 0,.int .i64 1,.int .i64 2])∧Hid (Gr w.heap.size w wr)) (fun s _=>3 - (intOf s).toNat)
   case atStart=>exact⟨0,by omega,rfl,HMI2,HVB2,HG2⟩
   case round=>
    clear HVB2 HMI2 HG2
    obtain ⟨k,hk,rfl,HMI,HVB,HG3⟩:=hrel
    have hsz3:=HG3.out.size
    have hvl:=HVB.out.lt
    obtain ⟨u0,u1,u2,_⟩:=HVB.out.three
    rcases(show k=0∨k=1∨k=2∨k=3 by omega)with rfl|rfl|rfl|rfl
    ·simp only [show((0:Nat):Int)=0 from rfl]
     go_wp2
     refine wp_region_held_drew (S:=(fun w'=>w'.cell? ⟨tb,0,none⟩=some (.int .i64 0)∧w'.cell? ⟨tb,1,none⟩=some (.int .i64 1)∧w'.cell? ⟨tb,2,none⟩=some (.int .i64 2))) (by kernel_rfl) ?_ (fun hHeld=>?_)
     ·simp [go_sem, *]
     refine tk 0 (some 26) (.int .i64 0) ?_
     try simp only [pS]
     refine tk 1 (some 27) (.pointer (some ⟨tb,0,none⟩)) ?_
     try simp only [pS]
     refine tk 2 (some 28) (.int .i64 0) ?_
     try simp only [pS]
     refine tk 3 (some 29) (.int .i64 0) ?_
     try simp only [pS]
     refine tk 4 (some 30) (.int .i64 1) ?_
     try simp only [pS]
     refine tk 5 (some 31) (.int .i64 1) ?_
     try simp only [pS]
     refine tk 6 (some 32) (.pointer (some ⟨tb,1,none⟩)) ?_
     try simp only [pS]
     refine tk 7 (some 33) (.int .i64 1) ?_
     try simp only [pS]
     refine tk 8 (some 7) (.int .i64 0) ?_
     try simp only [pS]
     refine tk 9 (some 8) (.int .i64 1) ?_
     try simp only [pS]
     refine wpAnyH_done (by kernel_rfl) ?_ _
     go_wp2_with (first
      | (at_lookup;refine wpM_look _ (b:=w.heap.size) (.tuple #[eV ⟨0,0,0,0⟩,.bool false]) true rfl _ _ rfl rfl (MI.look_none true (HMI.out.gr (B:=wr.heap.size) (by(with_reducible (repeat' (first|exact Gr.refl _ _|refine Gr.drew ?_|refine Gr.setCell ?_ ?_ _|refine Gr.alloc ?_ ?_ _|omega|(simp;done)|(simp;omega))))) HMI.out.lt) keyed_E under_E (zeroEdge _) (key:=endK 0 1) (keyOf_E (i:=0) (j:=1) (by omega) (by omega)) (by simp [EL,eE,endK])) ?_)
      | (at_mapUpdate;refine wpM_upd _ (b:=w.heap.size) rfl _ _ _ rfl rfl (MI.upd_new (HMI.out.gr (B:=wr.heap.size) (by(with_reducible (repeat' (first|exact Gr.refl _ _|refine Gr.drew ?_|refine Gr.setCell ?_ ?_ _|refine Gr.alloc ?_ ?_ _|omega|(simp;done)|(simp;omega))))) HMI.out.lt) keyed_E under_E (key:=endK 0 1) (val:=eV ⟨0,1,0,-1⟩) (keyOf_E (i:=0) (j:=1) (by omega) (by omega)) (by simp [EL,eE,endK]) (by simp [EL,maxLen])) ?_;rintro w2 ⟨hmi2,hkp2,hsz2⟩;(try simp at hsz2);have HMI2:=Lib.hid hmi2;have HKP2:=Lib.hid hkp2;clear hmi2 hkp2))
     go_roundw
     case rel=>exact⟨1,by omega,by go_num,HMI2,Lib.hid ((HVB.out.gr (show Gr wr.heap.size wr _ from by(with_reducible (repeat' (first|exact Gr.refl _ _|refine Gr.drew ?_|refine Gr.setCell ?_ ?_ _|refine Gr.alloc ?_ ?_ _|omega|(simp;done)|(simp;omega))))) hvl).kp HKP2.out (by simp;omega)),Lib.hid ((show Gr w.heap.size w _ from by(with_reducible (repeat' (first|exact Gr.refl _ _|refine Gr.drew ?_|refine Gr.setCell ?_ ?_ _|refine Gr.alloc ?_ ?_ _|refine Gr.trans ?_ (Gr.mono HG3.out ?_)|omega|(simp;done)|(simp;omega))))).trans (HKP2.out.gr (fun b e=>by cases e;exact Nat.le_refl _) (by simp;omega)))⟩
     case measure=>simp [intOf]
    ·simp only [show((1:Nat):Int)=1 from rfl]
     go_wp2
     refine wp_region_held_drew (S:=(fun w'=>w'.cell? ⟨tb,0,none⟩=some (.int .i64 0)∧w'.cell? ⟨tb,1,none⟩=some (.int .i64 1)∧w'.cell? ⟨tb,2,none⟩=some (.int .i64 2))) (by kernel_rfl) ?_ (fun hHeld=>?_)
     ·simp [go_sem, *]
     refine tk 0 (some 26) (.int .i64 1) ?_
     try simp only [pS]
     refine tk 1 (some 27) (.pointer (some ⟨tb,1,none⟩)) ?_
     try simp only [pS]
     refine tk 2 (some 28) (.int .i64 1) ?_
     try simp only [pS]
     refine tk 3 (some 29) (.int .i64 1) ?_
     try simp only [pS]
     refine tk 4 (some 30) (.int .i64 2) ?_
     try simp only [pS]
     refine tk 5 (some 31) (.int .i64 2) ?_
     try simp only [pS]
     refine tk 6 (some 32) (.pointer (some ⟨tb,2,none⟩)) ?_
     try simp only [pS]
     refine tk 7 (some 33) (.int .i64 2) ?_
     try simp only [pS]
     refine tk 8 (some 7) (.int .i64 1) ?_
     try simp only [pS]
     refine tk 9 (some 8) (.int .i64 2) ?_
     try simp only [pS]
     refine wpAnyH_done (by kernel_rfl) ?_ _
     go_wp2_with (first
      | (at_lookup;refine wpM_look _ (b:=w.heap.size) (.tuple #[eV ⟨0,0,0,0⟩,.bool false]) true rfl _ _ rfl rfl (MI.look_none true (HMI.out.gr (B:=wr.heap.size) (by(with_reducible (repeat' (first|exact Gr.refl _ _|refine Gr.drew ?_|refine Gr.setCell ?_ ?_ _|refine Gr.alloc ?_ ?_ _|omega|(simp;done)|(simp;omega))))) HMI.out.lt) keyed_E under_E (zeroEdge _) (key:=endK 1 2) (keyOf_E (i:=1) (j:=2) (by omega) (by omega)) (by simp [EL,eE,endK])) ?_)
      | (at_mapUpdate;refine wpM_upd _ (b:=w.heap.size) rfl _ _ _ rfl rfl (MI.upd_new (HMI.out.gr (B:=wr.heap.size) (by(with_reducible (repeat' (first|exact Gr.refl _ _|refine Gr.drew ?_|refine Gr.setCell ?_ ?_ _|refine Gr.alloc ?_ ?_ _|omega|(simp;done)|(simp;omega))))) HMI.out.lt) keyed_E under_E (key:=endK 1 2) (val:=eV ⟨1,2,0,-1⟩) (keyOf_E (i:=1) (j:=2) (by omega) (by omega)) (by simp [EL,eE,endK]) (by simp [EL,maxLen])) ?_;rintro w2 ⟨hmi2,hkp2,hsz2⟩;(try simp at hsz2);have HMI2:=Lib.hid hmi2;have HKP2:=Lib.hid hkp2;clear hmi2 hkp2))
     go_roundw
     case rel=>exact⟨2,by omega,by go_num,HMI2,Lib.hid ((HVB.out.gr (show Gr wr.heap.size wr _ from by(with_reducible (repeat' (first|exact Gr.refl _ _|refine Gr.drew ?_|refine Gr.setCell ?_ ?_ _|refine Gr.alloc ?_ ?_ _|omega|(simp;done)|(simp;omega))))) hvl).kp HKP2.out (by simp;omega)),Lib.hid ((show Gr w.heap.size w _ from by(with_reducible (repeat' (first|exact Gr.refl _ _|refine Gr.drew ?_|refine Gr.setCell ?_ ?_ _|refine Gr.alloc ?_ ?_ _|refine Gr.trans ?_ (Gr.mono HG3.out ?_)|omega|(simp;done)|(simp;omega))))).trans (HKP2.out.gr (fun b e=>by cases e;exact Nat.le_refl _) (by simp;omega)))⟩
     case measure=>simp [intOf]
    ·simp only [show((2:Nat):Int)=2 from rfl]
     go_wp2
     refine wp_region_held_drew (S:=(fun w'=>w'.cell? ⟨tb,0,none⟩=some (.int .i64 0)∧w'.cell? ⟨tb,1,none⟩=some (.int .i64 1)∧w'.cell? ⟨tb,2,none⟩=some (.int .i64 2))) (by kernel_rfl) ?_ (fun hHeld=>?_)
     ·simp [go_sem, *]
     refine tk 0 (some 26) (.int .i64 2) ?_
     try simp only [pS]
     refine tk 1 (some 27) (.pointer (some ⟨tb,2,none⟩)) ?_
     try simp only [pS]
     refine tk 2 (some 28) (.int .i64 2) ?_
     try simp only [pS]
     refine tk 3 (some 29) (.int .i64 2) ?_
     try simp only [pS]
     refine tk 4 (some 30) (.int .i64 3) ?_
     try simp only [pS]
     refine tk 5 (some 31) (.int .i64 0) ?_
     try simp only [pS]
     refine tk 6 (some 32) (.pointer (some ⟨tb,0,none⟩)) ?_
     try simp only [pS]
     refine tk 7 (some 33) (.int .i64 0) ?_
     try simp only [pS]
     refine tk 8 (some 7) (.int .i64 2) ?_
     try simp only [pS]
     refine tk 9 (some 8) (.int .i64 0) ?_
     try simp only [pS]
     refine wpAnyH_done (by kernel_rfl) ?_ _
     go_wp2_with (first
      | (at_lookup;refine wpM_look _ (b:=w.heap.size) (.tuple #[eV ⟨0,0,0,0⟩,.bool false]) true rfl _ _ rfl rfl (MI.look_none true (HMI.out.gr (B:=wr.heap.size) (by(with_reducible (repeat' (first|exact Gr.refl _ _|refine Gr.drew ?_|refine Gr.setCell ?_ ?_ _|refine Gr.alloc ?_ ?_ _|omega|(simp;done)|(simp;omega))))) HMI.out.lt) keyed_E under_E (zeroEdge _) (key:=endK 0 2) (keyOf_E (i:=0) (j:=2) (by omega) (by omega)) (by simp [EL,eE,endK])) ?_)
      | (at_mapUpdate;refine wpM_upd _ (b:=w.heap.size) rfl _ _ _ rfl rfl (MI.upd_new (HMI.out.gr (B:=wr.heap.size) (by(with_reducible (repeat' (first|exact Gr.refl _ _|refine Gr.drew ?_|refine Gr.setCell ?_ ?_ _|refine Gr.alloc ?_ ?_ _|omega|(simp;done)|(simp;omega))))) HMI.out.lt) keyed_E under_E (key:=endK 0 2) (val:=eV ⟨0,2,-1,0⟩) (keyOf_E (i:=0) (j:=2) (by omega) (by omega)) (by simp [EL,eE,endK]) (by simp [EL,maxLen])) ?_;rintro w2 ⟨hmi2,hkp2,hsz2⟩;(try simp at hsz2);have HMI2:=Lib.hid hmi2;have HKP2:=Lib.hid hkp2;clear hmi2 hkp2))
     go_roundw
     case rel=>exact⟨3,by omega,by go_num,HMI2,Lib.hid ((HVB.out.gr (show Gr wr.heap.size wr _ from by(with_reducible (repeat' (first|exact Gr.refl _ _|refine Gr.drew ?_|refine Gr.setCell ?_ ?_ _|refine Gr.alloc ?_ ?_ _|omega|(simp;done)|(simp;omega))))) hvl).kp HKP2.out (by simp;omega)),Lib.hid ((show Gr w.heap.size w _ from by(with_reducible (repeat' (first|exact Gr.refl _ _|refine Gr.drew ?_|refine Gr.setCell ?_ ?_ _|refine Gr.alloc ?_ ?_ _|refine Gr.trans ?_ (Gr.mono HG3.out ?_)|omega|(simp;done)|(simp;omega))))).trans (HKP2.out.gr (fun b e=>by cases e;exact Nat.le_refl _) (by simp;omega)))⟩
     case measure=>simp [intOf]
    ·simp only [show((3:Nat):Int)=3 from rfl]
     go_wp2
     go_roundw
     case rel=>exact⟨1,by omega,by go_num,HMI,HG3⟩
     case measure=>simp [intOf]
  ·obtain ⟨v0,v1,v2⟩:=(HR.out.gr HG1.out hglt).fTri (j:=1) (by simp [sqT]) rfl
   simp [sqT]at v0 v1 v2
   simp only [show((1:Nat):Int)=1 from rfl]
   go_wp2
   have HVB2:=Lib.hid (VB.new wr [.int .i64 0,.int .i64 2,.int .i64 3] 96)
   have HG2:=Lib.hid (show Gr w.heap.size w (wr.alloc (.cells #[.int .i64 0,.int .i64 2,.int .i64 3] 96))from by(with_reducible (repeat' (first|exact Gr.refl _ _|refine Gr.drew ?_|refine Gr.setCell ?_ ?_ _|refine Gr.alloc ?_ ?_ _|refine Gr.trans ?_ (Gr.mono HG1.out ?_)|omega|(simp;done)|(simp;omega)))))
   have HMI2:=Lib.hid (HMI1.out.alloc (.cells #[.int .i64 0,.int .i64 2,.int .i64 3] 96))
   have hml2:w.heap.size<wr.heap.size:=hml
   clear HMI1 HG1 hsz1 hml v0 v1 v2
   generalize wr.alloc (.cells #[.int .i64 0,.int .i64 2,.int .i64 3] 96)=wa at *
   generalize wr.heap.size=tb at *
   go_loopw [23] (fun s wr=> ∃k:Nat,k≤3∧s= .int .i64 k∧Hid (MIE wr w.heap.size (EL (3+k)))∧Hid (VB wr tb [.int .i64 0,.int .i64 2,.int .i64 3])∧Hid (Gr w.heap.size w wr)) (fun s _=>3 - (intOf s).toNat)
   case atStart=>exact⟨0,by omega,rfl,HMI2,HVB2,HG2⟩
   case round=>
    clear HVB2 HMI2 HG2
    obtain ⟨k,hk,rfl,HMI,HVB,HG3⟩:=hrel
    have hsz3:=HG3.out.size
    have hvl:=HVB.out.lt
    obtain ⟨u0,u1,u2,_⟩:=HVB.out.three
    rcases(show k=0∨k=1∨k=2∨k=3 by omega)with rfl|rfl|rfl|rfl
    ·simp only [show((0:Nat):Int)=0 from rfl]
     go_wp2
     refine wp_region_held_drew (S:=(fun w'=>w'.cell? ⟨tb,0,none⟩=some (.int .i64 0)∧w'.cell? ⟨tb,1,none⟩=some (.int .i64 2)∧w'.cell? ⟨tb,2,none⟩=some (.int .i64 3))) (by kernel_rfl) ?_ (fun hHeld=>?_)
     ·simp [go_sem, *]
     refine tk 0 (some 26) (.int .i64 0) ?_
     try simp only [pS]
     refine tk 1 (some 27) (.pointer (some ⟨tb,0,none⟩)) ?_
     try simp only [pS]
     refine tk 2 (some 28) (.int .i64 0) ?_
     try simp only [pS]
     refine tk 3 (some 29) (.int .i64 0) ?_
     try simp only [pS]
     refine tk 4 (some 30) (.int .i64 1) ?_
     try simp only [pS]
     refine tk 5 (some 31) (.int .i64 1) ?_
     try simp only [pS]
     refine tk 6 (some 32) (.pointer (some ⟨tb,1,none⟩)) ?_
     try simp only [pS]
     refine tk 7 (some 33) (.int .i64 2) ?_
     try simp only [pS]
     refine tk 8 (some 7) (.int .i64 0) ?_
     try simp only [pS]
     refine tk 9 (some 8) (.int .i64 2) ?_
     try simp only [pS]
     refine wpAnyH_done (by kernel_rfl) ?_ _
     go_wp2_with (first
      | (at_lookup;refine wpM_look _ (b:=w.heap.size) (.tuple #[eV ⟨0,2,-1,0⟩,.bool true]) true rfl _ _ rfl rfl (MI.look_some true (HMI.out.gr (B:=wr.heap.size) (by(with_reducible (repeat' (first|exact Gr.refl _ _|refine Gr.drew ?_|refine Gr.setCell ?_ ?_ _|refine Gr.alloc ?_ ?_ _|omega|(simp;done)|(simp;omega))))) HMI.out.lt) keyed_E under_E (zeroEdge _) (key:=endK 0 2) (v:=eV ⟨0,2,-1,0⟩) (keyOf_E (i:=0) (j:=2) (by omega) (by omega)) (by simp [EL,eE])) ?_)
      | (at_mapUpdate;refine wpM_upd _ (b:=w.heap.size) rfl _ _ _ rfl rfl (MI.upd_old (HMI.out.gr (B:=wr.heap.size) (by(with_reducible (repeat' (first|exact Gr.refl _ _|refine Gr.drew ?_|refine Gr.setCell ?_ ?_ _|refine Gr.alloc ?_ ?_ _|omega|(simp;done)|(simp;omega))))) HMI.out.lt) keyed_E under_E (key:=endK 0 2) (val:=eV ⟨0,2,1,0⟩) (j:=2) (u:=_) (keyOf_E (i:=0) (j:=2) (by omega) (by omega)) rfl (by simp [EL,maxLen])) ?_;rintro w2 ⟨hmi2,hkp2,hsz2⟩;(try simp at hsz2);have HMI2:=Lib.hid hmi2;have HKP2:=Lib.hid hkp2;clear hmi2 hkp2))
     go_roundw
     case rel=>exact⟨1,by omega,by go_num,HMI2,Lib.hid ((HVB.out.gr (show Gr wr.heap.size wr _ from by(with_reducible (repeat' (first|exact Gr.refl _ _|refine Gr.drew ?_|refine Gr.setCell ?_ ?_ _|refine Gr.alloc ?_ ?_ _|omega|(simp;done)|(simp;omega))))) hvl).kp HKP2.out (by simp;omega)),Lib.hid ((show Gr w.heap.size w _ from by(with_reducible (repeat' (first|exact Gr.refl _ _|refine Gr.drew ?_|refine Gr.setCell ?_ ?_ _|refine Gr.alloc ?_ ?_ _|refine Gr.trans ?_ (Gr.mono HG3.out ?_)|omega|(simp;done)|(simp;omega))))).trans (HKP2.out.gr (fun b e=>by cases e;exact Nat.le_refl _) (by simp;omega)))⟩
     case measure=>simp [intOf]
    ·simp only [show((1:Nat):Int)=1 from rfl]
     go_wp2
     refine wp_region_held_drew (S:=(fun w'=>w'.cell? ⟨tb,0,none⟩=some (.int .i64 0)∧w'.cell? ⟨tb,1,none⟩=some (.int .i64 2)∧w'.cell? ⟨tb,2,none⟩=some (.int .i64 3))) (by kernel_rfl) ?_ (fun hHeld=>?_)
     ·simp [go_sem, *]
     refine tk 0 (some 26) (.int .i64 1) ?_
     try simp only [pS]
     refine tk 1 (some 27) (.pointer (some ⟨tb,1,none⟩)) ?_
     try simp only [pS]
     refine tk 2 (some 28) (.int .i64 2) ?_
     try simp only [pS]
     refine tk 3 (some 29) (.int .i64 1) ?_
     try simp only [pS]
     refine tk 4 (some 30) (.int .i64 2) ?_
     try simp only [pS]
     refine tk 5 (some 31) (.int .i64 2) ?_
     try simp only [pS]
     refine tk 6 (some 32) (.pointer (some ⟨tb,2,none⟩)) ?_
     try simp only [pS]
     refine tk 7 (some 33) (.int .i64 3) ?_
     try simp only [pS]
     refine tk 8 (some 7) (.int .i64 2) ?_
     try simp only [pS]
     refine tk 9 (some 8) (.int .i64 3) ?_
     try simp only [pS]
     refine wpAnyH_done (by kernel_rfl) ?_ _
     go_wp2_with (first
      | (at_lookup;refine wpM_look _ (b:=w.heap.size) (.tuple #[eV ⟨0,0,0,0⟩,.bool false]) true rfl _ _ rfl rfl (MI.look_none true (HMI.out.gr (B:=wr.heap.size) (by(with_reducible (repeat' (first|exact Gr.refl _ _|refine Gr.drew ?_|refine Gr.setCell ?_ ?_ _|refine Gr.alloc ?_ ?_ _|omega|(simp;done)|(simp;omega))))) HMI.out.lt) keyed_E under_E (zeroEdge _) (key:=endK 2 3) (keyOf_E (i:=2) (j:=3) (by omega) (by omega)) (by simp [EL,eE,endK])) ?_)
      | (at_mapUpdate;refine wpM_upd _ (b:=w.heap.size) rfl _ _ _ rfl rfl (MI.upd_new (HMI.out.gr (B:=wr.heap.size) (by(with_reducible (repeat' (first|exact Gr.refl _ _|refine Gr.drew ?_|refine Gr.setCell ?_ ?_ _|refine Gr.alloc ?_ ?_ _|omega|(simp;done)|(simp;omega))))) HMI.out.lt) keyed_E under_E (key:=endK 2 3) (val:=eV ⟨2,3,1,-1⟩) (keyOf_E (i:=2) (j:=3) (by omega) (by omega)) (by simp [EL,eE,endK]) (by simp [EL,maxLen])) ?_;rintro w2 ⟨hmi2,hkp2,hsz2⟩;(try simp at hsz2);have HMI2:=Lib.hid hmi2;have HKP2:=Lib.hid hkp2;clear hmi2 hkp2))
     go_roundw
     case rel=>exact⟨2,by omega,by go_num,HMI2,Lib.hid ((HVB.out.gr (show Gr wr.heap.size wr _ from by(with_reducible (repeat' (first|exact Gr.refl _ _|refine Gr.drew ?_|refine Gr.setCell ?_ ?_ _|refine Gr.alloc ?_ ?_ _|omega|(simp;done)|(simp;omega))))) hvl).kp HKP2.out (by simp;omega)),Lib.hid ((show Gr w.heap.size w _ from by(with_reducible (repeat' (first|exact Gr.refl _ _|refine Gr.drew ?_|refine Gr.setCell ?_ ?_ _|refine Gr.alloc ?_ ?_ _|refine Gr.trans ?_ (Gr.mono HG3.out ?_)|omega|(simp;done)|(simp;omega))))).trans (HKP2.out.gr (fun b e=>by cases e;exact Nat.le_refl _) (by simp;omega)))⟩
     case measure=>simp [intOf]
    ·simp only [show((2:Nat):Int)=2 from rfl]
     go_wp2
     refine wp_region_held_drew (S:=(fun w'=>w'.cell? ⟨tb,0,none⟩=some (.int .i64 0)∧w'.cell? ⟨tb,1,none⟩=some (.int .i64 2)∧w'.cell? ⟨tb,2,none⟩=some (.int .i64 3))) (by kernel_rfl) ?_ (fun hHeld=>?_)
     ·simp [go_sem, *]
     refine tk 0 (some 26) (.int .i64 2) ?_
     try simp only [pS]
     refine tk 1 (some 27) (.pointer (some ⟨tb,2,none⟩)) ?_
     try simp only [pS]
     refine tk 2 (some 28) (.int .i64 3) ?_
     try simp only [pS]
     refine tk 3 (some 29) (.int .i64 2) ?_
     try simp only [pS]
     refine tk 4 (some 30) (.int .i64 3) ?_
     try simp only [pS]
     refine tk 5 (some 31) (.int .i64 0) ?_
     try simp only [pS]
     refine tk 6 (some 32) (.pointer (some ⟨tb,0,none⟩)) ?_
     try simp only [pS]
     refine tk 7 (some 33) (.int .i64 0) ?_
     try simp only [pS]
     refine tk 8 (some 7) (.int .i64 3) ?_
     try simp only [pS]
     refine tk 9 (some 8) (.int .i64 0) ?_
     try simp only [pS]
     refine wpAnyH_done (by kernel_rfl) ?_ _
     go_wp2_with (first
      | (at_lookup;refine wpM_look _ (b:=w.heap.size) (.tuple #[eV ⟨0,0,0,0⟩,.bool false]) true rfl _ _ rfl rfl (MI.look_none true (HMI.out.gr (B:=wr.heap.size) (by(with_reducible (repeat' (first|exact Gr.refl _ _|refine Gr.drew ?_|refine Gr.setCell ?_ ?_ _|refine Gr.alloc ?_ ?_ _|omega|(simp;done)|(simp;omega))))) HMI.out.lt) keyed_E under_E (zeroEdge _) (key:=endK 0 3) (keyOf_E (i:=0) (j:=3) (by omega) (by omega)) (by simp [EL,eE,endK])) ?_)
      | (at_mapUpdate;refine wpM_upd _ (b:=w.heap.size) rfl _ _ _ rfl rfl (MI.upd_new (HMI.out.gr (B:=wr.heap.size) (by(with_reducible (repeat' (first|exact Gr.refl _ _|refine Gr.drew ?_|refine Gr.setCell ?_ ?_ _|refine Gr.alloc ?_ ?_ _|omega|(simp;done)|(simp;omega))))) HMI.out.lt) keyed_E under_E (key:=endK 0 3) (val:=eV ⟨0,3,-1,1⟩) (keyOf_E (i:=0) (j:=3) (by omega) (by omega)) (by simp [EL,eE,endK]) (by simp [EL,maxLen])) ?_;rintro w2 ⟨hmi2,hkp2,hsz2⟩;(try simp at hsz2);have HMI2:=Lib.hid hmi2;have HKP2:=Lib.hid hkp2;clear hmi2 hkp2))
     go_roundw
     case rel=>exact⟨3,by omega,by go_num,HMI2,Lib.hid ((HVB.out.gr (show Gr wr.heap.size wr _ from by(with_reducible (repeat' (first|exact Gr.refl _ _|refine Gr.drew ?_|refine Gr.setCell ?_ ?_ _|refine Gr.alloc ?_ ?_ _|omega|(simp;done)|(simp;omega))))) hvl).kp HKP2.out (by simp;omega)),Lib.hid ((show Gr w.heap.size w _ from by(with_reducible (repeat' (first|exact Gr.refl _ _|refine Gr.drew ?_|refine Gr.setCell ?_ ?_ _|refine Gr.alloc ?_ ?_ _|refine Gr.trans ?_ (Gr.mono HG3.out ?_)|omega|(simp;done)|(simp;omega))))).trans (HKP2.out.gr (fun b e=>by cases e;exact Nat.le_refl _) (by simp;omega)))⟩
     case measure=>simp [intOf]
    ·simp only [show((3:Nat):Int)=3 from rfl]
     go_wp2
     go_roundw
     case rel=>exact⟨2,by omega,by go_num,HMI,HG3⟩
     case measure=>simp [intOf]
  ·have HMI6:=Lib.hid (show MIE wr w.heap.size (EL 6)from HMI1.out)
   clear HMI1 HMI0 HR
   simp only [show((2:Nat):Int)=2 from rfl]
   go_wp2_with (first
    | (at_len;refine wpM_len _ HMI6.out under_E rfl _ rfl rfl ?_)
    | (at_range;(refine wpM_range _ (HMI6.out.alloc _) under_E rfl _ rfl rfl ?_;intro w3 hri3 hkp3 hsz3;rw [show ∀o,(wr.alloc o).heap.size=wr.heap.size+1 from fun o=>by simp]at hri3;simp at hsz3;have HRI3:=Lib.hid hri3;have HKP3:=Lib.hid hkp3;clear hri3 hkp3)))
   simp only [show ∀o,(wr.alloc o).heap.size=wr.heap.size+1 from fun o=>by simp,Act.put,List.setIfInBounds_toArray,List.set_cons_zero,List.set_cons_succ]
   have HS3:=Lib.hid (show SL eC 4 135 w3 wr.heap.size (.slice (some ⟨wr.heap.size,0,none⟩) 0 5) []from HKP3.out.sl (SL.made wr 5 (by simp [madeCells]) (by simp [maxLen])) (fun _ _=>by simp))
   have HG3:=Lib.hid (show Gr w.heap.size w w3 from(show Gr w.heap.size w (wr.alloc _)from by(with_reducible (repeat' (first|exact Gr.refl _ _|refine Gr.drew ?_|refine Gr.setCell ?_ ?_ _|refine Gr.alloc ?_ ?_ _|refine Gr.trans ?_ (Gr.mono HG1.out ?_)|omega|(simp;done)|(simp;omega))))).trans (HKP3.out.gr (fun b e=>by cases e) (by simp;omega)))
   clear HKP3 HMI6 HG1
   generalize wr.heap.size=sb at *
   clear hsz1
   go_loopw [12] (fun p wr=> ∃acc left:List Edg,Hid (SL eC 4 135 wr sb p acc)∧Hid (RI Tryz.prog kE wr w.heap.size (sb+1) ((EL 6).map eE) (left.map eE))∧Hid ((acc++left).Perm (EL 6))∧p.ownBlock≠some (sb+1)∧Hid (Gr w.heap.size w wr)) (fun p _=>5 - slLen p)
   case atStart=>exact⟨[],EL 6,HS3,HRI3,Lib.hid (List.Perm.refl _),by simp [Value.ownBlock],HG3⟩
   case round=>
    clear HS3 HRI3 HG3 hsz3 hmk hmm
    obtain ⟨acc,left,HS,HRI,HPM,hob,HG⟩:=hrel
    have hsr:=HG.out.size
    have hrl:=HRI.out.lt
    obtain ⟨pa,pc,rfl⟩:=HS.out.at
    have hlen:acc.length+left.length=5:=by have h:=HPM.out.length_eq;simpa [EL] using h
    go_wp2_with (at_next;refine wpE_next _ HRI.out rfl _ rfl rfl (fun hl=>?_) (fun e0 A C w3 hl HRI3 HKP3 hsz3 hent=>?_))
    ·have hl0:left= []:=hl.out
     subst hl0
     refine Lib.hid ?_
     try simp only [pS]
     go_wp2_with fail
     have HP:=Lib.hid (show acc.Perm (EL 6)from by simpa using HPM.out)
     obtain ⟨g',cap',e1,_,_,_,hsh',_⟩:=HS.out.block (by intro e;rw [e]at hlen;simp at hlen)
     cases e1
     have hgl:=hsh'.lt
     clear hsh'
     refine(sort_Edge acc sb g' _ wr HS.out (by simp at hlen;omega)).mono ?_
     rintro e w4 ⟨rfl,l',hp',hs',hS4,hg4⟩
     obtain rfl:=edS_of (hp'.trans HP.out) hs'
     have HS4:=Lib.hid hS4
     have HG4:=Lib.hid hg4
     have hsz4:=hg4.size
     clear hS4 hg4 hs' hp'
     go_wp2_with fail
     refine(clip_Edge edS _ sb w4 HS4.out.sr).mono ?_
     rintro e w5 ⟨v5,rfl,hS5,hg5⟩
     have HS5:=Lib.hid (And.intro hS5 hg5)
     clear hS5 hg5
     go_wp2
     go_ret
     exact⟨v5,rfl,HS5.out.1.mono (by omega),(HG.out.trans (HG4.out.mono (by omega))).trans (HS5.out.2.mono (by omega))⟩
    ·refine Lib.hid ?_
     try simp only [pS]
     go_wp2_with (at_builtin;refine wpList_appS _ rfl _ _ 132 rfl sb i0 _ 32 Tryz.underlying132 HI.out.1 HI.out.2.1 HI.out.2.2.1 HI.out.2.2.2 rfl (by decide) eC_len eC_one _ acc rfl ((HKP3.out.sl HS.out (fun g hg e1=>hob (hg.trans e1))).gr (by(with_reducible (repeat' (first|exact Gr.refl _ _|refine Gr.drew ?_|refine Gr.setCell ?_ ?_ _|refine Gr.alloc ?_ ?_ _|omega|(simp;done)|(simp;omega)))))) (w3.heap.size+1) _ [e0] 1 rfl rfl (RC.new1' (by simp) rfl) (by unfold maxLen;simp;omega) (by simp;omega) (by simp;omega) ?_;intro v' w4 hS4 hkp4 hown;have HS4:=Lib.hid (And.intro hS4 (And.intro hkp4 hown));clear hS4 hkp4 hown)
     go_roundw
     case rel=>
      obtain ⟨hS4,hkp4,hown⟩:=HS4.out
      have hgw:Gr w3.heap.size w3 ((w3.alloc (.cells #[.int .i64 e0.a,.int .i64 e0.b,.int .i64 e0.l,.int .i64 e0.r] 135)).alloc (.cells #[.int .i64 e0.a,.int .i64 e0.b,.int .i64 e0.l,.int .i64 e0.r] 135)):=by(with_reducible (repeat' (first|exact Gr.refl _ _|refine Gr.drew ?_|refine Gr.setCell ?_ ?_ _|refine Gr.alloc ?_ ?_ _|omega|(simp;done)|(simp;omega))))
      have hlt3:w.heap.size<w3.heap.size:=by omega
      have hlr3:sb+1<w3.heap.size:=by omega
      refine⟨acc++ [e0],A++C,Lib.hid hS4,Lib.hid ((HRI3.out.gr hgw hlt3 hlr3).kp hkp4 (fun e1=>?_) (fun e1=>hob e1.symm)),Lib.hid ?_,?_,Lib.hid ?_⟩
      ·have:=HS.out.own_ge e1.symm
       omega
      ·have h:=HPM.out
       rw [hl.out]at h
       refine List.Perm.trans ?_ h
       rw [List.append_assoc]
       exact List.Perm.append_left acc (show(e0 :: (A++C)).Perm (A++e0 :: C)from List.perm_middle.symm)
      ·rcases hown with e1|e1
       ·rw [e1];exact hob
       ·rw [e1];simp;omega
      ·exact((HG.out.trans (HKP3.out.gr (fun b e1=>by cases e1;omega) hsr)).trans (hgw.mono (by omega))).trans (hkp4.gr (fun b e1=>by have:=HS.out.own_ge e1;omega) (by simp;omega))
     case measure=>
      obtain ⟨hS4,_,_⟩:=HS4.out
      obtain ⟨pa4,pc4,rfl⟩:=hS4.at
      have h:=hl.out
      have h2:=congrArg List.length h
      simp [slLen]at h2 ⊢
      omega
end Go.Proofs.YtmelogdhllhjiaaGreat
