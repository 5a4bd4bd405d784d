/-
  Part 35 of the proof: Parts.
-/
import Derived.Test.YtmelogdhllhjiaaGreatJ26
import Derived.Test.YtmelogdhllhjiaaGreatJ31
import Derived.Test.YtmelogdhllhjiaaGreatJ32
import Derived.Test.YtmelogdhllhjiaaGreatJ34
import Derived.WalkMore
set_option linter.unusedSimpArgs false
set_option linter.unusedVariables false
namespace Go.Proofs.YtmelogdhllhjiaaGreat
open Go.RowKit Gus Go.Maps
def msP (v:Value) (c:Option Value):Nat:=
 match c with
 | some (.int _ x)=>if x=0 then slLen v else 2
 | _=>0
def flC:Nat→List Value
 | 0=> [.int .i64 0,.int .i64 0]
 | 1=> [.int .i64 (-1),.int .i64 0]
 | _=> [.int .i64 (-1),.int .i64 (-1)]
def lC:Nat→List Value
 | 0=> [.int .i64 0,.int .i64 (-1)]
 | _=> [.int .i64 0,.int .i64 0]
def toC:Nat→List Nat
 | 0=> [0]
 | 1=> [1]
 | _=> []
def mlC:Nat→List Value
 | 0=> [.int .i64 (-1),.int .i64 (-1)]
 | _=> [.int .i64 0,.int .i64 0]
def tdA:Nat→List Nat
 | 0=> []
 | _=> [1]
def lB:Nat→List Value
 | 0=> [.int .i64 0,.int .i64 (-1)]
 | 1=> [.int .i64 0,.int .i64 (-1)]
 | _=> [.int .i64 0,.int .i64 0]
def tdB:Nat→List Nat
 | 0=> []
 | 1=> []
 | _=> [1]
set_option maxRecDepth 20000 in
set_option maxHeartbeats 8000000 in
theorem ms_Parts (rs:List Tri) (vp vt vs:Value) (w:World) (hM:MS w 0 vp vt vs ⟨sqP,sqT,rs⟩):Calls Tryz.prog 142 #[.agg #[vp,vt,vs]] w (fun e w'=> ∃g,e= .returned (.tuple #[.slice (some ⟨g,0,none⟩) 2 2,.int .i64 1])∧w.heap.size≤g∧VB w' g [.int .i64 0,.int .i64 0]∧Gr w.heap.size w w'):=by
 have hN:=Lib.hid (fun W (hW:Gr w.heap.size w W)=>ms_Numbered ⟨sqP,sqT,rs⟩ vp vt vs W (hM.gr hW) sqT_good)
 obtain ⟨hP,hT,hS⟩:=hM
 obtain ⟨as_,cs,rfl⟩:=hS.at
 obtain ⟨ap,cp,rfl⟩:=hP.at
 obtain ⟨gt,ct,rfl,_,hct,_,hsht,hRt⟩:=hT.block (by simp [sqT])
 have hgt:=hsht.lt
 have HR:=Lib.hid hRt
 clear hP hT hS hsht hRt
 simp only [sqP,sqT,List.length_cons,List.length_nil,Nat.zero_add,Nat.reduceAdd]at hct hN ⊢
 have hmm:= @run_makeMap Tryz.prog
 obtain ⟨i0,hi,hz0,hz1,hz2⟩:=info_parts info_nat
 have hmk:∀W:World,(Instr.makeSlice 84 (.int .i64 2) (.int .i64 2)).run Tryz.prog W= .ok (.slice (some ⟨W.heap.size,0,none⟩) 2 2) (W.alloc (.cells #[.int .i64 0,.int .i64 0] 3)):=fun W=>by
  have h:=run_make_rowN 84 3 i0 _ Tryz.underlying84 hi hz0 .i64 .i64 2 2 (by omega) (by rw [hz2];omega) (by omega) W
  rw [hz1,show madeCells (Value.int .i64 0).cells (2*1)= #[.int .i64 0,.int .i64 0]from by kernel_rfl]at h
  exact h
 have HI:=Lib.hid (And.intro hi (And.intro hz0 (And.intro hz1 hz2)))
 clear hi hz0 hz1 hz2
 have hw1:IntKind.i64.wrap 1=1:=by decide
 have hw2:IntKind.i64.wrap 2=2:=by decide
 have hw3:IntKind.i64.wrap 3=3:=by decide
 have hw0:IntKind.i64.wrap 0=0:=by decide
 go_enter Tryz.func142,Tryz.ntmps142
 go_wp2_with fail
 go_step3
 go_wp2_with fail
 (refine(hN.out _ (by(with_reducible (repeat' (first|exact Gr.refl _ _|refine Gr.drew ?_|refine Gr.setCell ?_ ?_ _|refine Gr.alloc ?_ ?_ _|omega|(simp;done)|(simp;omega)))))).mono ?_;rintro e w1 ⟨rfl,hg1⟩;(try (with_reducible replace hg1:=Gr.of_drew hg1));have hsz1:=hg1.size;(try simp at hsz1);have hz1_0:w.heap.size<w1.heap.size:=(by omega);obtain ⟨hc1,hf1⟩:=hg1.cells;have HG1:=Lib.hid hg1;clear hg1)
 go_wp2
 have HA0:=Lib.hid (show AtS (w1.alloc (.map #[] 0)) w1.heap.size (w1.heap.size+1) (atN 0) 0 from AtS.new (MI.new w1 _ _))
 have HV0:=Lib.hid (show VB (w1.alloc (.map #[] 0)) w.heap.size [.slice ap 4 cp,.slice (some ⟨gt,0,none⟩) 2 ct,.slice as_ rs.length cs]from by(with_reducible (repeat' (first|(refine VB.new' ?_;exact(by first|omega|(simp;done)|(simp;omega)))|apply VB.put2|apply VB.put3|apply VB.put5|refine VB.drew ?_|refine VB.far ?_ ?_ _|refine VB.alloc ?_ _|refine VB.gr ?_ HG1.out ?_|omega|(simp;done)|(simp;omega)))))
 have HGW:=Lib.hid (show Gr w.heap.size w (w1.alloc (.map #[] 0))from by(with_reducible (repeat' (first|exact Gr.refl _ _|refine Gr.drew ?_|refine Gr.setCell ?_ ?_ _|refine Gr.alloc ?_ ?_ _|refine Gr.trans ?_ (Gr.mono HG1.out ?_)|omega|(simp;done)|(simp;omega)))))
 have HR0:=Lib.hid (HR.out.gr HGW.out hgt)
 have hmb:w.heap.size<w1.heap.size:=hz1_0
 have hs0:(w1.alloc (.map #[] 0)).heap.size=w1.heap.size+1:=by simp
 clear HG1 hc1 hf1 HR hz1_0 hsz1 hN
 generalize w1.alloc (.map #[] 0)=w0 at *
 generalize w1.heap.size=mb at *
 go_loopw [30] (fun s wr=> ∃n:Nat,n≤2∧s= .int .i64 n∧Hid (AtS wr mb (mb+1) (atN (3*n)) (3*n))∧Hid (Gr mb w0 wr)) (fun s _=>2 - (intOf s).toNat)
 case atStart=>exact⟨0,by omega,rfl,HA0,Lib.hid (Gr.refl _ _)⟩
 case round=>
  clear HA0
  obtain ⟨n,hn,rfl,HA,HG⟩:=hrel
  have hszr:=HG.out.size
  obtain ⟨bx0,bx1,bx2,_⟩:=(HV0.out.gr HG.out hmb).three
  rcases(show n=0∨n=1∨n=2 by omega)with rfl|rfl|rfl
  ·obtain ⟨v0,v1,v2⟩:=(HR0.out.gr HG.out (by omega:gt<mb)).fTri (j:=0) (by simp [sqT]) rfl
   simp [sqT]at v0 v1 v2
   simp only [show((0:Nat):Int)=0 from rfl]
   go_wp2
   have HA2:=Lib.hid (HA.out.gr (show Gr wr.heap.size wr (wr.alloc (.cells #[.int .i64 0,.int .i64 1,.int .i64 2] 96))from by(with_reducible (repeat' (first|exact Gr.refl _ _|refine Gr.drew ?_|refine Gr.setCell ?_ ?_ _|refine Gr.alloc ?_ ?_ _|omega|(simp;done)|(simp;omega))))))
   have HG2:=Lib.hid (show Gr mb w0 (wr.alloc (.cells #[.int .i64 0,.int .i64 1,.int .i64 2] 96))from by(with_reducible (repeat' (first|exact Gr.refl _ _|refine Gr.drew ?_|refine Gr.setCell ?_ ?_ _|refine Gr.alloc ?_ ?_ _|refine Gr.trans ?_ (Gr.mono HG.out ?_)|omega|(simp;done)|(simp;omega)))))
   clear HA HG hszr v0 v1 v2 bx0 bx1 bx2
   generalize wr.alloc (.cells #[.int .i64 0,.int .i64 1,.int .i64 2] 96)=wa at *
   go_loopw [36] (fun s wr=> ∃k:Nat,k≤3∧s= .int .i64 k∧Hid (AtS wr mb (mb+1) (atN (0+k)) (0+k))∧Hid (Gr mb w0 wr)) (fun s _=>3 - (intOf s).toNat)
   case atStart=>exact⟨0,by omega,rfl,HA2,HG2⟩
   case round=>
    clear HA2 HG2
    obtain ⟨k,hk,rfl,HA,HG⟩:=hrel
    have hszr:=HG.out.size
    rcases(show k=0∨k=1∨k=2∨k=3 by omega)with rfl|rfl|rfl|rfl
    ·simp only [show((0:Nat):Int)=0 from rfl]
     obtain ⟨v,hlook,hO⟩:=HA.out.look (p:=0) (by omega)
     simp only [show((0:Nat):Int)=0 from rfl]at hlook
     have HO:=Lib.hid hO
     clear hO
     go_wp2_with (first
      | (at_lookup;refine wpM_look _ (b:=mb) v false rfl _ _ rfl rfl hlook ?_)
      | (at_builtin;refine wpList_appS _ rfl _ _ 84 rfl (mb+1) i0 _ 8 Tryz.underlying84 HI.out.1 HI.out.2.1 HI.out.2.2.1 HI.out.2.2.2 rfl (by decide) natC_len natC_one v (atN 0 0) rfl ((HO.out.gr (by(with_reducible (repeat' (first|exact Gr.refl _ _|refine Gr.drew ?_|refine Gr.setCell ?_ ?_ _|refine Gr.alloc ?_ ?_ _|omega|(simp;done)|(simp;omega)))))).sl) (wr.heap.size) _ [0] 1 rfl rfl (RC.new1' (by simp) rfl) (by decide) (by decide) (by simp;omega) ?_;intro v4 w4 hS4 hkp4 hown4;have HS4:=Lib.hid (And.intro hS4 (And.intro hkp4 hown4));clear hS4 hkp4 hown4)
      | (refine wpA_index _ rfl 96 _ _ rfl (.agg #[.int .i64 0,.int .i64 1,.int .i64 2]) (.int .i64 0) (.int .i64 0) rfl rfl (run_idx3 _ _ _ 0 _ rfl _) ?_)
      | (at_mapUpdate;refine wpM_upd _ (b:=mb) rfl _ _ _ rfl rfl (AtO.upd (p:=0) (n:=0) (t:=0) (HO.out.gr (by(with_reducible (repeat' (first|exact Gr.refl _ _|refine Gr.drew ?_|refine Gr.setCell ?_ ?_ _|refine Gr.alloc ?_ ?_ _|omega|(simp;done)|(simp;omega)))))) (by omega) (by omega) (by omega) HS4.out.2.1 HS4.out.1 HS4.out.2.2) ?_;rintro w2 ⟨hA2,hkp2,hsz2⟩;(try simp at hsz2);have HA2:=Lib.hid hA2;have HKP2:=Lib.hid hkp2;clear hA2 hkp2))
     go_roundw
     case rel=>
      refine⟨1,by omega,by go_num,Lib.hid (HA2.out.step rfl),Lib.hid ?_⟩
      have g1:=HS4.out.2.1.gr (B:=mb) (fun b e=>by have:=HO.out.sl.own_ge e;omega) (by simp;omega)
      have g2:=HKP2.out.gr (B:=mb) (fun b e=>by cases e;exact Nat.le_refl _) (by have:=g1.size;simp at this;omega)
      exact(Gr.trans (Gr.alloc HG.out (by omega) _) g1).trans g2
     case measure=>simp [intOf]
    ·simp only [show((1:Nat):Int)=1 from rfl]
     obtain ⟨v,hlook,hO⟩:=HA.out.look (p:=1) (by omega)
     simp only [show((1:Nat):Int)=1 from rfl]at hlook
     have HO:=Lib.hid hO
     clear hO
     go_wp2_with (first
      | (at_lookup;refine wpM_look _ (b:=mb) v false rfl _ _ rfl rfl hlook ?_)
      | (at_builtin;refine wpList_appS _ rfl _ _ 84 rfl (mb+1) i0 _ 8 Tryz.underlying84 HI.out.1 HI.out.2.1 HI.out.2.2.1 HI.out.2.2.2 rfl (by decide) natC_len natC_one v (atN 1 1) rfl ((HO.out.gr (by(with_reducible (repeat' (first|exact Gr.refl _ _|refine Gr.drew ?_|refine Gr.setCell ?_ ?_ _|refine Gr.alloc ?_ ?_ _|omega|(simp;done)|(simp;omega)))))).sl) (wr.heap.size) _ [0] 1 rfl rfl (RC.new1' (by simp) rfl) (by decide) (by decide) (by simp;omega) ?_;intro v4 w4 hS4 hkp4 hown4;have HS4:=Lib.hid (And.intro hS4 (And.intro hkp4 hown4));clear hS4 hkp4 hown4)
      | (refine wpA_index _ rfl 96 _ _ rfl (.agg #[.int .i64 0,.int .i64 1,.int .i64 2]) (.int .i64 1) (.int .i64 1) rfl rfl (run_idx3 _ _ _ 1 _ rfl _) ?_)
      | (at_mapUpdate;refine wpM_upd _ (b:=mb) rfl _ _ _ rfl rfl (AtO.upd (p:=1) (n:=1) (t:=0) (HO.out.gr (by(with_reducible (repeat' (first|exact Gr.refl _ _|refine Gr.drew ?_|refine Gr.setCell ?_ ?_ _|refine Gr.alloc ?_ ?_ _|omega|(simp;done)|(simp;omega)))))) (by omega) (by omega) (by omega) HS4.out.2.1 HS4.out.1 HS4.out.2.2) ?_;rintro w2 ⟨hA2,hkp2,hsz2⟩;(try simp at hsz2);have HA2:=Lib.hid hA2;have HKP2:=Lib.hid hkp2;clear hA2 hkp2))
     go_roundw
     case rel=>
      refine⟨2,by omega,by go_num,Lib.hid (HA2.out.step rfl),Lib.hid ?_⟩
      have g1:=HS4.out.2.1.gr (B:=mb) (fun b e=>by have:=HO.out.sl.own_ge e;omega) (by simp;omega)
      have g2:=HKP2.out.gr (B:=mb) (fun b e=>by cases e;exact Nat.le_refl _) (by have:=g1.size;simp at this;omega)
      exact(Gr.trans (Gr.alloc HG.out (by omega) _) g1).trans g2
     case measure=>simp [intOf]
    ·simp only [show((2:Nat):Int)=2 from rfl]
     obtain ⟨v,hlook,hO⟩:=HA.out.look (p:=2) (by omega)
     simp only [show((2:Nat):Int)=2 from rfl]at hlook
     have HO:=Lib.hid hO
     clear hO
     go_wp2_with (first
      | (at_lookup;refine wpM_look _ (b:=mb) v false rfl _ _ rfl rfl hlook ?_)
      | (at_builtin;refine wpList_appS _ rfl _ _ 84 rfl (mb+1) i0 _ 8 Tryz.underlying84 HI.out.1 HI.out.2.1 HI.out.2.2.1 HI.out.2.2.2 rfl (by decide) natC_len natC_one v (atN 2 2) rfl ((HO.out.gr (by(with_reducible (repeat' (first|exact Gr.refl _ _|refine Gr.drew ?_|refine Gr.setCell ?_ ?_ _|refine Gr.alloc ?_ ?_ _|omega|(simp;done)|(simp;omega)))))).sl) (wr.heap.size) _ [0] 1 rfl rfl (RC.new1' (by simp) rfl) (by decide) (by decide) (by simp;omega) ?_;intro v4 w4 hS4 hkp4 hown4;have HS4:=Lib.hid (And.intro hS4 (And.intro hkp4 hown4));clear hS4 hkp4 hown4)
      | (refine wpA_index _ rfl 96 _ _ rfl (.agg #[.int .i64 0,.int .i64 1,.int .i64 2]) (.int .i64 2) (.int .i64 2) rfl rfl (run_idx3 _ _ _ 2 _ rfl _) ?_)
      | (at_mapUpdate;refine wpM_upd _ (b:=mb) rfl _ _ _ rfl rfl (AtO.upd (p:=2) (n:=2) (t:=0) (HO.out.gr (by(with_reducible (repeat' (first|exact Gr.refl _ _|refine Gr.drew ?_|refine Gr.setCell ?_ ?_ _|refine Gr.alloc ?_ ?_ _|omega|(simp;done)|(simp;omega)))))) (by omega) (by omega) (by omega) HS4.out.2.1 HS4.out.1 HS4.out.2.2) ?_;rintro w2 ⟨hA2,hkp2,hsz2⟩;(try simp at hsz2);have HA2:=Lib.hid hA2;have HKP2:=Lib.hid hkp2;clear hA2 hkp2))
     go_roundw
     case rel=>
      refine⟨3,by omega,by go_num,Lib.hid (HA2.out.step rfl),Lib.hid ?_⟩
      have g1:=HS4.out.2.1.gr (B:=mb) (fun b e=>by have:=HO.out.sl.own_ge e;omega) (by simp;omega)
      have g2:=HKP2.out.gr (B:=mb) (fun b e=>by cases e;exact Nat.le_refl _) (by have:=g1.size;simp at this;omega)
      exact(Gr.trans (Gr.alloc HG.out (by omega) _) g1).trans g2
     case measure=>simp [intOf]
    ·simp only [show((3:Nat):Int)=3 from rfl]
     go_wp2
     go_roundw
     case rel=>exact⟨1,by omega,by go_num,HA,HG⟩
     case measure=>simp [intOf]
  ·obtain ⟨v0,v1,v2⟩:=(HR0.out.gr HG.out (by omega:gt<mb)).fTri (j:=1) (by simp [sqT]) rfl
   simp [sqT]at v0 v1 v2
   simp only [show((1:Nat):Int)=1 from rfl]
   go_wp2
   have HA2:=Lib.hid (HA.out.gr (show Gr wr.heap.size wr (wr.alloc (.cells #[.int .i64 0,.int .i64 2,.int .i64 3] 96))from by(with_reducible (repeat' (first|exact Gr.refl _ _|refine Gr.drew ?_|refine Gr.setCell ?_ ?_ _|refine Gr.alloc ?_ ?_ _|omega|(simp;done)|(simp;omega))))))
   have HG2:=Lib.hid (show Gr mb w0 (wr.alloc (.cells #[.int .i64 0,.int .i64 2,.int .i64 3] 96))from by(with_reducible (repeat' (first|exact Gr.refl _ _|refine Gr.drew ?_|refine Gr.setCell ?_ ?_ _|refine Gr.alloc ?_ ?_ _|refine Gr.trans ?_ (Gr.mono HG.out ?_)|omega|(simp;done)|(simp;omega)))))
   clear HA HG hszr v0 v1 v2 bx0 bx1 bx2
   generalize wr.alloc (.cells #[.int .i64 0,.int .i64 2,.int .i64 3] 96)=wa at *
   go_loopw [36] (fun s wr=> ∃k:Nat,k≤3∧s= .int .i64 k∧Hid (AtS wr mb (mb+1) (atN (3+k)) (3+k))∧Hid (Gr mb w0 wr)) (fun s _=>3 - (intOf s).toNat)
   case atStart=>exact⟨0,by omega,rfl,HA2,HG2⟩
   case round=>
    clear HA2 HG2
    obtain ⟨k,hk,rfl,HA,HG⟩:=hrel
    have hszr:=HG.out.size
    rcases(show k=0∨k=1∨k=2∨k=3 by omega)with rfl|rfl|rfl|rfl
    ·simp only [show((0:Nat):Int)=0 from rfl]
     obtain ⟨v,hlook,hO⟩:=HA.out.look (p:=0) (by omega)
     simp only [show((0:Nat):Int)=0 from rfl]at hlook
     have HO:=Lib.hid hO
     clear hO
     go_wp2_with (first
      | (at_lookup;refine wpM_look _ (b:=mb) v false rfl _ _ rfl rfl hlook ?_)
      | (at_builtin;refine wpList_appS _ rfl _ _ 84 rfl (mb+1) i0 _ 8 Tryz.underlying84 HI.out.1 HI.out.2.1 HI.out.2.2.1 HI.out.2.2.2 rfl (by decide) natC_len natC_one v (atN 3 0) rfl ((HO.out.gr (by(with_reducible (repeat' (first|exact Gr.refl _ _|refine Gr.drew ?_|refine Gr.setCell ?_ ?_ _|refine Gr.alloc ?_ ?_ _|omega|(simp;done)|(simp;omega)))))).sl) (wr.heap.size) _ [1] 1 rfl rfl (RC.new1' (by simp) rfl) (by decide) (by decide) (by simp;omega) ?_;intro v4 w4 hS4 hkp4 hown4;have HS4:=Lib.hid (And.intro hS4 (And.intro hkp4 hown4));clear hS4 hkp4 hown4)
      | (refine wpA_index _ rfl 96 _ _ rfl (.agg #[.int .i64 0,.int .i64 2,.int .i64 3]) (.int .i64 0) (.int .i64 0) rfl rfl (run_idx3 _ _ _ 0 _ rfl _) ?_)
      | (at_mapUpdate;refine wpM_upd _ (b:=mb) rfl _ _ _ rfl rfl (AtO.upd (p:=0) (n:=3) (t:=1) (HO.out.gr (by(with_reducible (repeat' (first|exact Gr.refl _ _|refine Gr.drew ?_|refine Gr.setCell ?_ ?_ _|refine Gr.alloc ?_ ?_ _|omega|(simp;done)|(simp;omega)))))) (by omega) (by omega) (by omega) HS4.out.2.1 HS4.out.1 HS4.out.2.2) ?_;rintro w2 ⟨hA2,hkp2,hsz2⟩;(try simp at hsz2);have HA2:=Lib.hid hA2;have HKP2:=Lib.hid hkp2;clear hA2 hkp2))
     go_roundw
     case rel=>
      refine⟨1,by omega,by go_num,Lib.hid (HA2.out.step rfl),Lib.hid ?_⟩
      have g1:=HS4.out.2.1.gr (B:=mb) (fun b e=>by have:=HO.out.sl.own_ge e;omega) (by simp;omega)
      have g2:=HKP2.out.gr (B:=mb) (fun b e=>by cases e;exact Nat.le_refl _) (by have:=g1.size;simp at this;omega)
      exact(Gr.trans (Gr.alloc HG.out (by omega) _) g1).trans g2
     case measure=>simp [intOf]
    ·simp only [show((1:Nat):Int)=1 from rfl]
     obtain ⟨v,hlook,hO⟩:=HA.out.look (p:=2) (by omega)
     simp only [show((2:Nat):Int)=2 from rfl]at hlook
     have HO:=Lib.hid hO
     clear hO
     go_wp2_with (first
      | (at_lookup;refine wpM_look _ (b:=mb) v false rfl _ _ rfl rfl hlook ?_)
      | (at_builtin;refine wpList_appS _ rfl _ _ 84 rfl (mb+1) i0 _ 8 Tryz.underlying84 HI.out.1 HI.out.2.1 HI.out.2.2.1 HI.out.2.2.2 rfl (by decide) natC_len natC_one v (atN 4 2) rfl ((HO.out.gr (by(with_reducible (repeat' (first|exact Gr.refl _ _|refine Gr.drew ?_|refine Gr.setCell ?_ ?_ _|refine Gr.alloc ?_ ?_ _|omega|(simp;done)|(simp;omega)))))).sl) (wr.heap.size) _ [1] 1 rfl rfl (RC.new1' (by simp) rfl) (by decide) (by decide) (by simp;omega) ?_;intro v4 w4 hS4 hkp4 hown4;have HS4:=Lib.hid (And.intro hS4 (And.intro hkp4 hown4));clear hS4 hkp4 hown4)
      | (refine wpA_index _ rfl 96 _ _ rfl (.agg #[.int .i64 0,.int .i64 2,.int .i64 3]) (.int .i64 1) (.int .i64 2) rfl rfl (run_idx3 _ _ _ 1 _ rfl _) ?_)
      | (at_mapUpdate;refine wpM_upd _ (b:=mb) rfl _ _ _ rfl rfl (AtO.upd (p:=2) (n:=4) (t:=1) (HO.out.gr (by(with_reducible (repeat' (first|exact Gr.refl _ _|refine Gr.drew ?_|refine Gr.setCell ?_ ?_ _|refine Gr.alloc ?_ ?_ _|omega|(simp;done)|(simp;omega)))))) (by omega) (by omega) (by omega) HS4.out.2.1 HS4.out.1 HS4.out.2.2) ?_;rintro w2 ⟨hA2,hkp2,hsz2⟩;(try simp at hsz2);have HA2:=Lib.hid hA2;have HKP2:=Lib.hid hkp2;clear hA2 hkp2))
     go_roundw
     case rel=>
      refine⟨2,by omega,by go_num,Lib.hid (HA2.out.step rfl),Lib.hid ?_⟩
      have g1:=HS4.out.2.1.gr (B:=mb) (fun b e=>by have:=HO.out.sl.own_ge e;omega) (by simp;omega)
      have g2:=HKP2.out.gr (B:=mb) (fun b e=>by cases e;exact Nat.le_refl _) (by have:=g1.size;simp at this;omega)
      exact(Gr.trans (Gr.alloc HG.out (by omega) _) g1).trans g2
     case measure=>simp [intOf]
    ·simp only [show((2:Nat):Int)=2 from rfl]
     obtain ⟨v,hlook,hO⟩:=HA.out.look (p:=3) (by omega)
     simp only [show((3:Nat):Int)=3 from rfl]at hlook
     have HO:=Lib.hid hO
     clear hO
     go_wp2_with (first
      | (at_lookup;refine wpM_look _ (b:=mb) v false rfl _ _ rfl rfl hlook ?_)
      | (at_builtin;refine wpList_appS _ rfl _ _ 84 rfl (mb+1) i0 _ 8 Tryz.underlying84 HI.out.1 HI.out.2.1 HI.out.2.2.1 HI.out.2.2.2 rfl (by decide) natC_len natC_one v (atN 5 3) rfl ((HO.out.gr (by(with_reducible (repeat' (first|exact Gr.refl _ _|refine Gr.drew ?_|refine Gr.setCell ?_ ?_ _|refine Gr.alloc ?_ ?_ _|omega|(simp;done)|(simp;omega)))))).sl) (wr.heap.size) _ [1] 1 rfl rfl (RC.new1' (by simp) rfl) (by decide) (by decide) (by simp;omega) ?_;intro v4 w4 hS4 hkp4 hown4;have HS4:=Lib.hid (And.intro hS4 (And.intro hkp4 hown4));clear hS4 hkp4 hown4)
      | (refine wpA_index _ rfl 96 _ _ rfl (.agg #[.int .i64 0,.int .i64 2,.int .i64 3]) (.int .i64 2) (.int .i64 3) rfl rfl (run_idx3 _ _ _ 2 _ rfl _) ?_)
      | (at_mapUpdate;refine wpM_upd _ (b:=mb) rfl _ _ _ rfl rfl (AtO.upd (p:=3) (n:=5) (t:=1) (HO.out.gr (by(with_reducible (repeat' (first|exact Gr.refl _ _|refine Gr.drew ?_|refine Gr.setCell ?_ ?_ _|refine Gr.alloc ?_ ?_ _|omega|(simp;done)|(simp;omega)))))) (by omega) (by omega) (by omega) HS4.out.2.1 HS4.out.1 HS4.out.2.2) ?_;rintro w2 ⟨hA2,hkp2,hsz2⟩;(try simp at hsz2);have HA2:=Lib.hid hA2;have HKP2:=Lib.hid hkp2;clear hA2 hkp2))
     go_roundw
     case rel=>
      refine⟨3,by omega,by go_num,Lib.hid (HA2.out.step rfl),Lib.hid ?_⟩
      have g1:=HS4.out.2.1.gr (B:=mb) (fun b e=>by have:=HO.out.sl.own_ge e;omega) (by simp;omega)
      have g2:=HKP2.out.gr (B:=mb) (fun b e=>by cases e;exact Nat.le_refl _) (by have:=g1.size;simp at this;omega)
      exact(Gr.trans (Gr.alloc HG.out (by omega) _) g1).trans g2
     case measure=>simp [intOf]
    ·simp only [show((3:Nat):Int)=3 from rfl]
     go_wp2
     go_roundw
     case rel=>exact⟨2,by omega,by go_num,HA,HG⟩
     case measure=>simp [intOf]
  ·have HF0:=Lib.hid (HA.out.fix)
   simp only [show((2:Nat):Int)=2 from rfl]
   go_wp2
   have HF:=Lib.hid (show AtF (wr.alloc (.cells #[.int .i64 0,.int .i64 0] 3)) mb wr.heap.size (atN 6)from HF0.out.gr (by(with_reducible (repeat' (first|exact Gr.refl _ _|refine Gr.drew ?_|refine Gr.setCell ?_ ?_ _|refine Gr.alloc ?_ ?_ _|omega|(simp;done)|(simp;omega))))))
   have HL:=Lib.hid (show VB (wr.alloc (.cells #[.int .i64 0,.int .i64 0] 3)) wr.heap.size (flC 0)from VB.new wr _ _)
   have HGA:Hid (Gr mb w0 (wr.alloc (.cells #[.int .i64 0,.int .i64 0] 3))):=Lib.hid (by(with_reducible (repeat' (first|exact Gr.refl _ _|refine Gr.drew ?_|refine Gr.setCell ?_ ?_ _|refine Gr.alloc ?_ ?_ _|refine Gr.trans ?_ (Gr.mono HG.out ?_)|omega|(simp;done)|(simp;omega)))))
   have HV:=Lib.hid (HV0.out.gr HGA.out hmb)
   have HR:=Lib.hid (HR0.out.gr HGA.out (by omega:gt<mb))
   have HGW2:=Lib.hid (HGW.out.trans (HGA.out.mono (by omega)))
   have hlb:mb<wr.heap.size:=HF0.out.1
   have hsl:(wr.alloc (.cells #[.int .i64 0,.int .i64 0] 3)).heap.size=wr.heap.size+1:=by simp
   clear HA HG HF0 HGA HGW HV0 HR0 bx0 bx1 bx2 hszr hs0
   generalize wr.alloc (.cells #[.int .i64 0,.int .i64 0] 3)=w3 at *
   generalize wr.heap.size=lb at *
   go_loopw [55] (fun s wr=> ∃k:Nat,k≤2∧s= .int .i64 k∧Hid (VB wr lb (flC k))∧Hid (Gr lb w3 wr)) (fun s _=>2 - (intOf s).toNat)
   case atStart=>exact⟨0,by omega,rfl,HL,Lib.hid (Gr.refl _ _)⟩
   case round=>
    clear HL
    obtain ⟨k,hk,rfl,HL,HG⟩:=hrel
    have hszr:=HG.out.size
    rcases(show k=0∨k=1∨k=2 by omega)with rfl|rfl|rfl
    ·simp only [show((0:Nat):Int)=0 from rfl]
     have x0:=(show VB _ lb [.int .i64 0,.int .i64 0]from HL.out).c 0 _ rfl
     have y0:=(show VB _ lb [.int .i64 0,.int .i64 0]from HL.out).f 0 (by simp)
     have x1:=(show VB _ lb [.int .i64 0,.int .i64 0]from HL.out).c 1 _ rfl
     have y1:=(show VB _ lb [.int .i64 0,.int .i64 0]from HL.out).f 1 (by simp)
     go_wp2
     go_roundw
     case rel=>exact⟨1,by omega,by go_num,Lib.hid (VB.part 0 [.int .i64 (-1)] (show VB wr lb [.int .i64 0,.int .i64 0]from HL.out) rfl (by simp)),Lib.hid (by(with_reducible (repeat' (first|exact Gr.refl _ _|refine Gr.drew ?_|refine Gr.setCell ?_ ?_ _|refine Gr.alloc ?_ ?_ _|refine Gr.trans ?_ (Gr.mono HG.out ?_)|omega|(simp;done)|(simp;omega)))))⟩
     case measure=>simp [intOf]
    ·simp only [show((1:Nat):Int)=1 from rfl]
     have x0:=(show VB _ lb [.int .i64 (-1),.int .i64 0]from HL.out).c 0 _ rfl
     have y0:=(show VB _ lb [.int .i64 (-1),.int .i64 0]from HL.out).f 0 (by simp)
     have x1:=(show VB _ lb [.int .i64 (-1),.int .i64 0]from HL.out).c 1 _ rfl
     have y1:=(show VB _ lb [.int .i64 (-1),.int .i64 0]from HL.out).f 1 (by simp)
     go_wp2
     go_roundw
     case rel=>exact⟨2,by omega,by go_num,Lib.hid (VB.part 1 [.int .i64 (-1)] (show VB wr lb [.int .i64 (-1),.int .i64 0]from HL.out) rfl (by simp)),Lib.hid (by(with_reducible (repeat' (first|exact Gr.refl _ _|refine Gr.drew ?_|refine Gr.setCell ?_ ?_ _|refine Gr.alloc ?_ ?_ _|refine Gr.trans ?_ (Gr.mono HG.out ?_)|omega|(simp;done)|(simp;omega)))))⟩
     case measure=>simp [intOf]
    ·simp only [show((2:Nat):Int)=2 from rfl]
     go_wp2_with go_step3
     go_loopw [64,3] (fun s nn wr=> ∃t:Nat,t≤2∧s= .int .i64 t∧nn= .int .i64 (if t=0 then 0 else 1)∧Hid (VB wr lb (mlC t))∧Hid (Gr lb w3 wr)) (fun s _ _=>2 - (intOf s).toNat)
     case atStart=>exact⟨0,by omega,rfl,rfl,HL,HG⟩
     case round=>
      clear HL HG hszr
      obtain ⟨t,ht,rfl,rfl,HL,HG⟩:=hrel
      have hszr:=HG.out.size
      obtain ⟨bx0,bx1,bx2,_⟩:=(HV.out.gr HG.out (by omega)).three
      rcases(show t=0∨t=1∨t=2 by omega)with rfl|rfl|rfl
      ·simp only [show((0:Nat):Int)=0 from rfl,if_pos]
       have x0:=(show VB _ lb [.int .i64 (-1),.int .i64 (-1)]from HL.out).c 0 _ rfl
       have y0:=(show VB _ lb [.int .i64 (-1),.int .i64 (-1)]from HL.out).f 0 (by simp)
       have x1:=(show VB _ lb [.int .i64 (-1),.int .i64 (-1)]from HL.out).c 1 _ rfl
       have y1:=(show VB _ lb [.int .i64 (-1),.int .i64 (-1)]from HL.out).f 1 (by simp)
       have hne:¬lb=wr.heap.size:=by omega
       have hltb:lb<wr.heap.size:=by omega
       go_wp2
       go_loopw [11] (fun s wr=> ∃c:Nat,c≤2∧Hid (SL natC 1 3 wr (lb+1) s (toC c))∧Hid (VB wr lb (lC c))∧Hid (Gr lb w3 wr)) (fun s w=>msP s (w.cell? ⟨lb,1,none⟩))
       case atStart=>exact⟨0,by omega,Lib.hid (SL.new' (l:= [0]) natC_len _ rfl (by simp) (by omega) (by simp [maxLen]) rfl),Lib.hid (VB.alloc (VB.part 0 [.int .i64 0] (show VB wr lb [.int .i64 (-1),.int .i64 (-1)]from HL.out) rfl (by simp)) _),Lib.hid (by(with_reducible (repeat' (first|exact Gr.refl _ _|refine Gr.drew ?_|refine Gr.setCell ?_ ?_ _|refine Gr.alloc ?_ ?_ _|refine Gr.trans ?_ (Gr.mono HG.out ?_)|omega|(simp;done)|(simp;omega)))))⟩
       case round=>
        clear HL HG hszr bx0 bx1 bx2 x0 x1 y0 y1 hne hltb
        obtain ⟨c,hc,HT,HL,HG⟩:=hrel
        have hszr:=HG.out.size
        obtain ⟨bx0,bx1,bx2,_⟩:=(HV.out.gr HG.out (by omega)).three
        rcases(show c=0∨c=1∨c=2 by omega)with rfl|rfl|rfl
        ·obtain ⟨gs,tc,rfl,hgs,htc,htm,_,hRT⟩:=HT.out.block (by simp [toC])
         have m1:=HL.out.c 1 _ rfl
         have t0:=hRT 0 (by simp [toC]) 0 _ rfl
         simp [toC]at t0 htc
         clear hRT
         have HT0:=Lib.hid (show SL natC 1 3 wr (lb+1) (.slice (some ⟨gs,0,none⟩) 0 tc) []from SL.cut (l:= [0]) HT.out (n:=0) (by simp))
         obtain ⟨v0,v1,v2⟩:=(HR.out.gr HG.out (by omega:gt<lb)).fTri (j:=0) (by simp [sqT]) rfl
         simp [sqT]at v0 v1 v2
         simp only [toC,List.length_cons,List.length_nil,Nat.zero_add]
         have htz:(0:Int)≤(tc:Int):=by omega
         go_wp2
         go_loopw [97,11] (fun s td wr=> ∃k:Nat,k≤3∧s= .int .i64 k∧Hid (SL natC 1 3 wr (lb+1) td (tdA k))∧Hid (VB wr lb (lC k))∧Hid (Gr lb w3 wr)) (fun s _ _=>3 - (intOf s).toNat)
         case atStart=>exact⟨0,by omega,rfl,HT0,HL,HG⟩
         case round=>
          clear HT HL HG hszr bx0 bx1 bx2 t0 HT0 v0 v1 v2
          obtain ⟨k,hk,rfl,HT,HL,HG⟩:=hrel
          have hszr:=HG.out.size
          rcases(show k=0∨k=1∨k=2∨k=3 by omega)with rfl|rfl|rfl|rfl
          ·simp only [show((0:Nat):Int)=0 from rfl]
           obtain ⟨ga,ca,hlook,hga,hca,hRA⟩:=(HF.out.gr HG.out).look (p:=0) (by omega) (by decide)
           simp only [show(atN 6 0).length=2 from rfl,show((0:Nat):Int)=0 from rfl]at hlook hca
           have HRA:=Lib.hid (show RC natC 1 _ ga [0,1]from hRA)
           clear hRA
           go_wp2_with (first|(at_lookup;refine wpM_look _ (b:=mb) _ false rfl _ _ rfl rfl hlook ?_)|(refine wpA_index _ rfl 96 _ _ rfl (.agg #[.int .i64 0,.int .i64 1,.int .i64 2]) (.int .i64 0) (.int .i64 0) rfl rfl (run_idx3 _ _ _ 0 _ rfl _) ?_))
           clear hlook
           go_loopw [104,11] (fun s td wq=> ∃j:Nat,j≤2∧s= .int .i64 j∧Hid (SL natC 1 3 wq (lb+1) td (tdB j))∧Hid (VB wq lb (lB j))∧Hid (Gr lb wr wq)) (fun s _ _=>2 - (intOf s).toNat)
           case atStart=>exact⟨0,by omega,rfl,HT,HL,Lib.hid (Gr.refl _ _)⟩
           case round=>
            clear HT HL
            obtain ⟨j,hj,rfl,HT,HL,HGQ⟩:=hrel
            have hszq:=HGQ.out.size
            rcases(show j=0∨j=1∨j=2 by omega)with rfl|rfl|rfl
            ·simp only [show((0:Nat):Int)=0 from rfl]
             have z0:=(HRA.out.gr HGQ.out hga) 0 (by simp) 0 _ rfl
             simp at z0
             have x0:=(show VB _ lb [.int .i64 0,.int .i64 (-1)]from HL.out).c 0 _ rfl
             have x1:=(show VB _ lb [.int .i64 0,.int .i64 (-1)]from HL.out).c 1 _ rfl
             go_wp2
             go_roundw
             case rel=>exact⟨1,by omega,by go_num,HT,HL,HGQ⟩
             case measure=>simp [intOf]
            ·simp only [show((1:Nat):Int)=1 from rfl]
             have z0:=(HRA.out.gr HGQ.out hga) 1 (by simp) 0 _ rfl
             simp at z0
             have x0:=(show VB _ lb [.int .i64 0,.int .i64 (-1)]from HL.out).c 0 _ rfl
             have y0:=(show VB _ lb [.int .i64 0,.int .i64 (-1)]from HL.out).f 0 (by simp)
             have x1:=(show VB _ lb [.int .i64 0,.int .i64 (-1)]from HL.out).c 1 _ rfl
             have y1:=(show VB _ lb [.int .i64 0,.int .i64 (-1)]from HL.out).f 1 (by simp)
             obtain ⟨ta,tc2,rfl⟩:=HT.out.at
             have HT2:=Lib.hid (show SL natC 1 3 _ (lb+1) (.slice ta 0 tc2) []from HT.out)
             simp only [tdB,List.length_nil]
             go_wp2_with (at_builtin;refine wpList_appS _ rfl _ _ 84 rfl (lb+1) i0 _ 8 Tryz.underlying84 HI.out.1 HI.out.2.1 HI.out.2.2.1 HI.out.2.2.2 rfl (by decide) natC_len natC_one _ ([]) rfl (SL.gr (SL.far (p:=⟨lb,1,none⟩) HT2.out (by show lb<lb+1;omega) (.int .i64 0)) (by(with_reducible (repeat' (first|exact Gr.refl _ _|refine Gr.drew ?_|refine Gr.setCell ?_ ?_ _|refine Gr.alloc ?_ ?_ _|omega|(simp;done)|(simp;omega)))))) (_) _ [1] 1 rfl rfl (RC.new1' (by simp) rfl) (by decide) (by decide) (by simp;omega) ?_;intro v4 w4 hS4 hkp4 hown4;have HS4:=Lib.hid (And.intro hS4 (And.intro hkp4 hown4));clear hS4 hkp4 hown4)
             go_roundw
             case rel=>
              refine⟨2,by omega,by go_num,Lib.hid HS4.out.1,Lib.hid ?_,Lib.hid ?_⟩
              ·exact VB.kp (VB.alloc (VB.part 1 [.int .i64 0] (show VB _ lb [.int .i64 0,.int .i64 (-1)]from HL.out) rfl (by simp)) _) HS4.out.2.1 (fun e=>by have:=HT2.out.own_ge e.symm;omega)
              ·exact Gr.trans (Gr.alloc (Gr.setCell HGQ.out (Nat.le_refl _) _) (by simp;omega) _) (HS4.out.2.1.gr (B:=lb) (fun b e=>by have:=HT2.out.own_ge e;omega) (by simp;omega))
             case measure=>simp [intOf]
            ·simp only [show((2:Nat):Int)=2 from rfl]
             go_wp2
             go_roundw
             case rel=>exact⟨1,by omega,by go_num,HT,HL,Lib.hid (HG.out.trans HGQ.out)⟩
             case measure=>simp [intOf]
          ·simp only [show((1:Nat):Int)=1 from rfl]
           obtain ⟨ga,ca,hlook,hga,hca,hRA⟩:=(HF.out.gr HG.out).look (p:=1) (by omega) (by decide)
           simp only [show(atN 6 1).length=1 from rfl,show((1:Nat):Int)=1 from rfl]at hlook hca
           have HRA:=Lib.hid (show RC natC 1 _ ga [0]from hRA)
           clear hRA
           go_wp2_with (first|(at_lookup;refine wpM_look _ (b:=mb) _ false rfl _ _ rfl rfl hlook ?_)|(refine wpA_index _ rfl 96 _ _ rfl (.agg #[.int .i64 0,.int .i64 1,.int .i64 2]) (.int .i64 1) (.int .i64 1) rfl rfl (run_idx3 _ _ _ 1 _ rfl _) ?_))
           clear hlook
           go_loopw [104,11] (fun s td wq=> ∃j:Nat,j≤1∧s= .int .i64 j∧Hid (SL natC 1 3 wq (lb+1) td [1])∧Hid (VB wq lb [.int .i64 0,.int .i64 0])∧Hid (Gr lb wr wq)) (fun s _ _=>1 - (intOf s).toNat)
           case atStart=>exact⟨0,by omega,rfl,HT,HL,Lib.hid (Gr.refl _ _)⟩
           case round=>
            clear HT HL
            obtain ⟨j,hj,rfl,HT,HL,HGQ⟩:=hrel
            have hszq:=HGQ.out.size
            rcases(show j=0∨j=1 by omega)with rfl|rfl
            ·simp only [show((0:Nat):Int)=0 from rfl]
             have z0:=(HRA.out.gr HGQ.out hga) 0 (by simp) 0 _ rfl
             simp at z0
             have x0:=(show VB _ lb [.int .i64 0,.int .i64 0]from HL.out).c 0 _ rfl
             have x1:=(show VB _ lb [.int .i64 0,.int .i64 0]from HL.out).c 1 _ rfl
             go_wp2
             go_roundw
             case rel=>exact⟨1,by omega,by go_num,HT,HL,HGQ⟩
             case measure=>simp [intOf]
            ·simp only [show((1:Nat):Int)=1 from rfl]
             go_wp2
             go_roundw
             case rel=>exact⟨2,by omega,by go_num,HT,HL,Lib.hid (HG.out.trans HGQ.out)⟩
             case measure=>simp [intOf]
          ·simp only [show((2:Nat):Int)=2 from rfl]
           obtain ⟨ga,ca,hlook,hga,hca,hRA⟩:=(HF.out.gr HG.out).look (p:=2) (by omega) (by decide)
           simp only [show(atN 6 2).length=2 from rfl,show((2:Nat):Int)=2 from rfl]at hlook hca
           have HRA:=Lib.hid (show RC natC 1 _ ga [0,1]from hRA)
           clear hRA
           go_wp2_with (first|(at_lookup;refine wpM_look _ (b:=mb) _ false rfl _ _ rfl rfl hlook ?_)|(refine wpA_index _ rfl 96 _ _ rfl (.agg #[.int .i64 0,.int .i64 1,.int .i64 2]) (.int .i64 2) (.int .i64 2) rfl rfl (run_idx3 _ _ _ 2 _ rfl _) ?_))
           clear hlook
           go_loopw [104,11] (fun s td wq=> ∃j:Nat,j≤2∧s= .int .i64 j∧Hid (SL natC 1 3 wq (lb+1) td [1])∧Hid (VB wq lb [.int .i64 0,.int .i64 0])∧Hid (Gr lb wr wq)) (fun s _ _=>2 - (intOf s).toNat)
           case atStart=>exact⟨0,by omega,rfl,HT,HL,Lib.hid (Gr.refl _ _)⟩
           case round=>
            clear HT HL
            obtain ⟨j,hj,rfl,HT,HL,HGQ⟩:=hrel
            have hszq:=HGQ.out.size
            rcases(show j=0∨j=1∨j=2 by omega)with rfl|rfl|rfl
            ·simp only [show((0:Nat):Int)=0 from rfl]
             have z0:=(HRA.out.gr HGQ.out hga) 0 (by simp) 0 _ rfl
             simp at z0
             have x0:=(show VB _ lb [.int .i64 0,.int .i64 0]from HL.out).c 0 _ rfl
             have x1:=(show VB _ lb [.int .i64 0,.int .i64 0]from HL.out).c 1 _ rfl
             go_wp2
             go_roundw
             case rel=>exact⟨1,by omega,by go_num,HT,HL,HGQ⟩
             case measure=>simp [intOf]
            ·simp only [show((1:Nat):Int)=1 from rfl]
             have z0:=(HRA.out.gr HGQ.out hga) 1 (by simp) 0 _ rfl
             simp at z0
             have x0:=(show VB _ lb [.int .i64 0,.int .i64 0]from HL.out).c 0 _ rfl
             have x1:=(show VB _ lb [.int .i64 0,.int .i64 0]from HL.out).c 1 _ rfl
             go_wp2
             go_roundw
             case rel=>exact⟨2,by omega,by go_num,HT,HL,HGQ⟩
             case measure=>simp [intOf]
            ·simp only [show((2:Nat):Int)=2 from rfl]
             go_wp2
             go_roundw
             case rel=>exact⟨3,by omega,by go_num,HT,HL,Lib.hid (HG.out.trans HGQ.out)⟩
             case measure=>simp [intOf]
          ·simp only [show((3:Nat):Int)=3 from rfl]
           obtain ⟨ta,tb,rfl⟩:=HT.out.at
           have m2:=HL.out.c 1 _ rfl
           go_wp2
           go_roundw
           case rel=>exact⟨1,by omega,HT,HL,HG⟩
           case measure=>simp [msP,slLen,m1,m2,tdA]
        ·obtain ⟨gs,tc,rfl,hgs,htc,htm,_,hRT⟩:=HT.out.block (by simp [toC])
         have m1:=HL.out.c 1 _ rfl
         have t0:=hRT 0 (by simp [toC]) 0 _ rfl
         simp [toC]at t0 htc
         clear hRT
         have HT0:=Lib.hid (show SL natC 1 3 wr (lb+1) (.slice (some ⟨gs,0,none⟩) 0 tc) []from SL.cut (l:= [1]) HT.out (n:=0) (by simp))
         obtain ⟨v0,v1,v2⟩:=(HR.out.gr HG.out (by omega:gt<lb)).fTri (j:=1) (by simp [sqT]) rfl
         simp [sqT]at v0 v1 v2
         simp only [toC,List.length_cons,List.length_nil,Nat.zero_add]
         have htz:(0:Int)≤(tc:Int):=by omega
         go_wp2
         go_loopw [97,11] (fun s td wr=> ∃k:Nat,k≤3∧s= .int .i64 k∧Hid (SL natC 1 3 wr (lb+1) td [])∧Hid (VB wr lb [.int .i64 0,.int .i64 0])∧Hid (Gr lb w3 wr)) (fun s _ _=>3 - (intOf s).toNat)
         case atStart=>exact⟨0,by omega,rfl,HT0,HL,HG⟩
         case round=>
          clear HT HL HG hszr bx0 bx1 bx2 t0 HT0 v0 v1 v2
          obtain ⟨k,hk,rfl,HT,HL,HG⟩:=hrel
          have hszr:=HG.out.size
          rcases(show k=0∨k=1∨k=2∨k=3 by omega)with rfl|rfl|rfl|rfl
          ·simp only [show((0:Nat):Int)=0 from rfl]
           obtain ⟨ga,ca,hlook,hga,hca,hRA⟩:=(HF.out.gr HG.out).look (p:=0) (by omega) (by decide)
           simp only [show(atN 6 0).length=2 from rfl,show((0:Nat):Int)=0 from rfl]at hlook hca
           have HRA:=Lib.hid (show RC natC 1 _ ga [0,1]from hRA)
           clear hRA
           go_wp2_with (first|(at_lookup;refine wpM_look _ (b:=mb) _ false rfl _ _ rfl rfl hlook ?_)|(refine wpA_index _ rfl 96 _ _ rfl (.agg #[.int .i64 0,.int .i64 2,.int .i64 3]) (.int .i64 0) (.int .i64 0) rfl rfl (run_idx3 _ _ _ 0 _ rfl _) ?_))
           clear hlook
           go_loopw [104,11] (fun s td wq=> ∃j:Nat,j≤2∧s= .int .i64 j∧Hid (SL natC 1 3 wq (lb+1) td [])∧Hid (VB wq lb [.int .i64 0,.int .i64 0])∧Hid (Gr lb wr wq)) (fun s _ _=>2 - (intOf s).toNat)
           case atStart=>exact⟨0,by omega,rfl,HT,HL,Lib.hid (Gr.refl _ _)⟩
           case round=>
            clear HT HL
            obtain ⟨j,hj,rfl,HT,HL,HGQ⟩:=hrel
            have hszq:=HGQ.out.size
            rcases(show j=0∨j=1∨j=2 by omega)with rfl|rfl|rfl
            ·simp only [show((0:Nat):Int)=0 from rfl]
             have z0:=(HRA.out.gr HGQ.out hga) 0 (by simp) 0 _ rfl
             simp at z0
             have x0:=(show VB _ lb [.int .i64 0,.int .i64 0]from HL.out).c 0 _ rfl
             have x1:=(show VB _ lb [.int .i64 0,.int .i64 0]from HL.out).c 1 _ rfl
             go_wp2
             go_roundw
             case rel=>exact⟨1,by omega,by go_num,HT,HL,HGQ⟩
             case measure=>simp [intOf]
            ·simp only [show((1:Nat):Int)=1 from rfl]
             have z0:=(HRA.out.gr HGQ.out hga) 1 (by simp) 0 _ rfl
             simp at z0
             have x0:=(show VB _ lb [.int .i64 0,.int .i64 0]from HL.out).c 0 _ rfl
             have x1:=(show VB _ lb [.int .i64 0,.int .i64 0]from HL.out).c 1 _ rfl
             go_wp2
             go_roundw
             case rel=>exact⟨2,by omega,by go_num,HT,HL,HGQ⟩
             case measure=>simp [intOf]
            ·simp only [show((2:Nat):Int)=2 from rfl]
             go_wp2
             go_roundw
             case rel=>exact⟨1,by omega,by go_num,HT,HL,Lib.hid (HG.out.trans HGQ.out)⟩
             case measure=>simp [intOf]
          ·simp only [show((1:Nat):Int)=1 from rfl]
           obtain ⟨ga,ca,hlook,hga,hca,hRA⟩:=(HF.out.gr HG.out).look (p:=2) (by omega) (by decide)
           simp only [show(atN 6 2).length=2 from rfl,show((2:Nat):Int)=2 from rfl]at hlook hca
           have HRA:=Lib.hid (show RC natC 1 _ ga [0,1]from hRA)
           clear hRA
           go_wp2_with (first|(at_lookup;refine wpM_look _ (b:=mb) _ false rfl _ _ rfl rfl hlook ?_)|(refine wpA_index _ rfl 96 _ _ rfl (.agg #[.int .i64 0,.int .i64 2,.int .i64 3]) (.int .i64 1) (.int .i64 2) rfl rfl (run_idx3 _ _ _ 1 _ rfl _) ?_))
           clear hlook
           go_loopw [104,11] (fun s td wq=> ∃j:Nat,j≤2∧s= .int .i64 j∧Hid (SL natC 1 3 wq (lb+1) td [])∧Hid (VB wq lb [.int .i64 0,.int .i64 0])∧Hid (Gr lb wr wq)) (fun s _ _=>2 - (intOf s).toNat)
           case atStart=>exact⟨0,by omega,rfl,HT,HL,Lib.hid (Gr.refl _ _)⟩
           case round=>
            clear HT HL
            obtain ⟨j,hj,rfl,HT,HL,HGQ⟩:=hrel
            have hszq:=HGQ.out.size
            rcases(show j=0∨j=1∨j=2 by omega)with rfl|rfl|rfl
            ·simp only [show((0:Nat):Int)=0 from rfl]
             have z0:=(HRA.out.gr HGQ.out hga) 0 (by simp) 0 _ rfl
             simp at z0
             have x0:=(show VB _ lb [.int .i64 0,.int .i64 0]from HL.out).c 0 _ rfl
             have x1:=(show VB _ lb [.int .i64 0,.int .i64 0]from HL.out).c 1 _ rfl
             go_wp2
             go_roundw
             case rel=>exact⟨1,by omega,by go_num,HT,HL,HGQ⟩
             case measure=>simp [intOf]
            ·simp only [show((1:Nat):Int)=1 from rfl]
             have z0:=(HRA.out.gr HGQ.out hga) 1 (by simp) 0 _ rfl
             simp at z0
             have x0:=(show VB _ lb [.int .i64 0,.int .i64 0]from HL.out).c 0 _ rfl
             have x1:=(show VB _ lb [.int .i64 0,.int .i64 0]from HL.out).c 1 _ rfl
             go_wp2
             go_roundw
             case rel=>exact⟨2,by omega,by go_num,HT,HL,HGQ⟩
             case measure=>simp [intOf]
            ·simp only [show((2:Nat):Int)=2 from rfl]
             go_wp2
             go_roundw
             case rel=>exact⟨2,by omega,by go_num,HT,HL,Lib.hid (HG.out.trans HGQ.out)⟩
             case measure=>simp [intOf]
          ·simp only [show((2:Nat):Int)=2 from rfl]
           obtain ⟨ga,ca,hlook,hga,hca,hRA⟩:=(HF.out.gr HG.out).look (p:=3) (by omega) (by decide)
           simp only [show(atN 6 3).length=1 from rfl,show((3:Nat):Int)=3 from rfl]at hlook hca
           have HRA:=Lib.hid (show RC natC 1 _ ga [1]from hRA)
           clear hRA
           go_wp2_with (first|(at_lookup;refine wpM_look _ (b:=mb) _ false rfl _ _ rfl rfl hlook ?_)|(refine wpA_index _ rfl 96 _ _ rfl (.agg #[.int .i64 0,.int .i64 2,.int .i64 3]) (.int .i64 2) (.int .i64 3) rfl rfl (run_idx3 _ _ _ 2 _ rfl _) ?_))
           clear hlook
           go_loopw [104,11] (fun s td wq=> ∃j:Nat,j≤1∧s= .int .i64 j∧Hid (SL natC 1 3 wq (lb+1) td [])∧Hid (VB wq lb [.int .i64 0,.int .i64 0])∧Hid (Gr lb wr wq)) (fun s _ _=>1 - (intOf s).toNat)
           case atStart=>exact⟨0,by omega,rfl,HT,HL,Lib.hid (Gr.refl _ _)⟩
           case round=>
            clear HT HL
            obtain ⟨j,hj,rfl,HT,HL,HGQ⟩:=hrel
            have hszq:=HGQ.out.size
            rcases(show j=0∨j=1 by omega)with rfl|rfl
            ·simp only [show((0:Nat):Int)=0 from rfl]
             have z0:=(HRA.out.gr HGQ.out hga) 0 (by simp) 0 _ rfl
             simp at z0
             have x0:=(show VB _ lb [.int .i64 0,.int .i64 0]from HL.out).c 0 _ rfl
             have x1:=(show VB _ lb [.int .i64 0,.int .i64 0]from HL.out).c 1 _ rfl
             go_wp2
             go_roundw
             case rel=>exact⟨1,by omega,by go_num,HT,HL,HGQ⟩
             case measure=>simp [intOf]
            ·simp only [show((1:Nat):Int)=1 from rfl]
             go_wp2
             go_roundw
             case rel=>exact⟨3,by omega,by go_num,HT,HL,Lib.hid (HG.out.trans HGQ.out)⟩
             case measure=>simp [intOf]
          ·simp only [show((3:Nat):Int)=3 from rfl]
           obtain ⟨ta,tb,rfl⟩:=HT.out.at
           have m2:=HL.out.c 1 _ rfl
           go_wp2
           go_roundw
           case rel=>exact⟨2,by omega,HT,HL,HG⟩
           case measure=>simp [msP,slLen,m1,m2]
        ·obtain ⟨ta,tc,rfl⟩:=HT.out.at
         simp only [toC,List.length_nil]
         go_wp2
         go_roundw
         case rel=>exact⟨1,by omega,by go_num,rfl,HL,HG⟩
         case measure=>simp [intOf]
      ·simp only [show((1:Nat):Int)=1 from rfl]
       have x0:=(show VB _ lb [.int .i64 0,.int .i64 0]from HL.out).c 0 _ rfl
       have x1:=(show VB _ lb [.int .i64 0,.int .i64 0]from HL.out).c 1 _ rfl
       go_wp2
       go_roundw
       case rel=>exact⟨2,by omega,by go_num,rfl,HL,HG⟩
       case measure=>simp [intOf]
      ·simp only [show((2:Nat):Int)=2 from rfl]
       go_wp2
       rw [Exit.noGoto_ret]
       refine bodyPost_ret (v:= .tuple #[.slice (some ⟨lb,0,none⟩) 2 2,.int .i64 1]) (by simp [results,Tryz.results142]) rfl ?_
       exact⟨lb,rfl,by omega,HL.out,HGW2.out.trans (HG.out.mono (by omega))⟩
end Go.Proofs.YtmelogdhllhjiaaGreat
