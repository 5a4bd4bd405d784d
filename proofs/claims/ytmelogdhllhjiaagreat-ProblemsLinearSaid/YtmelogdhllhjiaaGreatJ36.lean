/-
  Part 36 of the proof: Given Held.
-/
import Derived.Test.YtmelogdhllhjiaaGreatJ20
import Derived.Test.YtmelogdhllhjiaaGreatJ22
import Derived.Test.YtmelogdhllhjiaaGreatJ24
import Derived.Test.YtmelogdhllhjiaaGreatJ26
import Derived.Test.YtmelogdhllhjiaaGreatJ33
import Derived.Test.YtmelogdhllhjiaaGreatJ35
import Derived.Shelf.Abstract
set_option linter.unusedSimpArgs false
set_option linter.unusedVariables false
namespace Go.Proofs.YtmelogdhllhjiaaGreat
open Go.RowKit Gus Go.Maps
noncomputable def kB:TypeId:=((Tryz.prog.underlying 197).bind fun| .map k _=>some k|_=>none).getD 0
theorem under_B:Tryz.prog.underlying 197=some (.map kB 4):=by kernel_rfl
theorem keyed_B:Keyed Tryz.prog kB:=int_keyed (show Tryz.prog.underlying kB=some (.int .i64)from by kernel_rfl)
theorem keyOf_B:∃kl,keyOf Tryz.prog kB (.int .i64 0)=some kl:=Option.isSome_iff_exists.1 (show(keyOf Tryz.prog kB (.int .i64 0)).isSome=true from by kernel_rfl)
theorem zero_B (w:World):(zeroValue 4).run Tryz.prog w= .ok (.bool false) w:=by
 have h:(Tryz.prog.info? 4).bind (·.zero)=some (.bool false):=by kernel_rfl
 obtain ⟨i,h1,h2⟩:=Option.bind_eq_some_iff.1 h
 simp [zeroValue,Go.typeInfo,h1,h2]
set_option maxRecDepth 20000 in
set_option maxHeartbeats 8000000 in
theorem given_raw (p:Prb) (fixed:Bool) (ua a0 a1:Option Addr) (un uc n0 c0 n1 c1:Nat) (lu l0 l1:List T) (w:World) (hS:SR gvC 5 71 w 0 p.gv [⟨0,fixed,.slice ua un uc,.slice a0 n0 c0,.slice a1 n1 c1⟩])
  (hd:∀W v B,SR pvC 1 41 W B v [(.slice ua un uc,lu),(.slice a0 n0 c0,l0),(.slice a1 n1 c1,l1)]→Gr w.heap.size w W→Calls Tryz.prog 137 #[v] W (Ret W (.int .i64 0))):
  Calls Tryz.prog 103 #[prV p] w (Ret w (.int .i64 0)):=by
 have hD:=Lib.hid hd
 obtain ⟨gg,cap,hgv,_,hcap,_,hsh,hR⟩:=hS.block (by simp)
 have hlt:=hsh.lt
 have HR:=Lib.hid hR
 obtain ⟨vp,vt,vs,order,a,b,c,q,f,gv⟩:=p
 simp only at hgv ⊢
 subst hgv
 simp only [List.length_cons,List.length_nil,Nat.zero_add]at hcap ⊢
 clear hS hsh hR hd
 have hmm:= @run_makeMap Tryz.prog
 obtain ⟨kl,hkl⟩:=keyOf_B
 have HK:=Lib.hid hkl
 clear hkl
 go_enter Tryz.func103,Tryz.ntmps103
 go_wp2
 have HV0:=Lib.hid (show VB ((w.alloc (.cells (prC ⟨vp,vt,vs,order,a,b,c,q,f,.slice (some ⟨gg,0,none⟩) 1 cap⟩).toArray 66)).alloc (.map #[] 0)) w.heap.size (prC ⟨vp,vt,vs,order,a,b,c,q,f,.slice (some ⟨gg,0,none⟩) 1 cap⟩)from by(with_reducible (repeat' (first|(refine VB.new' ?_;exact(by first|omega|(simp;done)|(simp;omega)))|apply VB.put2|apply VB.put3|apply VB.put5|refine VB.drew ?_|refine VB.far ?_ ?_ _|refine VB.alloc ?_ _|omega|(simp;done)|(simp;omega)))))
 have HM0:=Lib.hid (show MI Tryz.prog kB ((w.alloc (.cells (prC ⟨vp,vt,vs,order,a,b,c,q,f,.slice (some ⟨gg,0,none⟩) 1 cap⟩).toArray 66)).alloc (.map #[] 0)) (w.heap.size+1) []from MI.new' _ _ _ (by simp))
 have HG0:=Lib.hid (show Gr w.heap.size w ((w.alloc (.cells (prC ⟨vp,vt,vs,order,a,b,c,q,f,.slice (some ⟨gg,0,none⟩) 1 cap⟩).toArray 66)).alloc (.map #[] 0))from by(with_reducible (repeat' (first|exact Gr.refl _ _|refine Gr.drew ?_|refine Gr.setCell ?_ ?_ _|refine Gr.alloc ?_ ?_ _|omega|(simp;done)|(simp;omega)))))
 go_loopw [11] (fun s wr=> ∃n:Nat,n≤1∧s= .int .i64 n∧Hid (n=0→MI Tryz.prog kB wr (w.heap.size+1) [])∧Hid (w.heap.size+1<wr.heap.size)∧Hid (Gr w.heap.size w wr)) (fun s _=>1 - (intOf s).toNat)
 case atStart=>exact⟨0,by omega,rfl,Lib.hid (fun _=>HM0.out),Lib.hid (by simp),HG0⟩
 case round=>
  clear HV0 HM0 HG0
  obtain ⟨n,hn,rfl,HM1,HL,HG⟩:=hrel
  have hszr:=HG.out.size
  rcases(show n=0∨n=1 by omega)with rfl|rfl
  ·obtain ⟨v0,v1,v2,v3,v4⟩:=(HR.out.gr HG.out hlt).fGv (j:=0) (by simp) rfl
   simp at v0 v1 v2 v3 v4
   simp only [show((0:Nat):Int)=0 from rfl]
   have HM:=Lib.hid (HM1.out rfl)
   have hml:=HL.out
   clear HM1 HL
   have hlk:∀o,(Instr.lookup 197 (.map (some (w.heap.size+1))) (.int .i64 0) false).run Tryz.prog (wr.alloc o)= .ok (.bool false) (wr.alloc o):=fun o=>by
    simpa using MI.look_none false (HM.out.alloc o) keyed_B under_B (zero_B _) HK.out (by simp)
   have q1:¬wr.heap.size=w.heap.size+1:=by omega
   have q2:¬wr.heap.size=w.heap.size:=by omega
   go_wp2_with (first
    | (at_mapUpdate;go_loud (refine wpM_upd _ (b:=w.heap.size+1) rfl _ _ _ rfl rfl (MI.upd_new (HM.out.alloc _) keyed_B under_B HK.out (by simp) (by simp [maxLen])) ?_;rintro w2 ⟨hmi2,hkp2,hsz2⟩;(try simp at hsz2);have HVX:=Lib.hid (VB.kp (VB.new wr [.int .i64 0,.bool fixed,.slice ua un uc,.slice a0 n0 c0,.slice a1 n1 c1] 71) hkp2 (by simp;omega));have HKG:=Lib.hid (hkp2.gr (B:=w.heap.size) (fun b e=>by cases e;omega) (by simp;omega));obtain ⟨x0,x1,x2,x3,x4,_,_,_,_,_⟩:=HVX.out.five;clear hmi2 hkp2)))
   have HG2:=Lib.hid (show Gr w.heap.size w w2 from(Gr.alloc HG.out hszr _).trans HKG.out)
   clear HKG
   (refine(hD.out _ _ w.heap.size (SL.sr (SL.new' (enc:=pvC) (l:= [(.slice ua un uc,lu),(.slice a0 n0 c0,l0),(.slice a1 n1 c1,l1)]) (fun _=>rfl) _ rfl (by omega) (by omega) (by simp [maxLen]) rfl)) (by(with_reducible (repeat' (first|exact Gr.refl _ _|refine Gr.drew ?_|refine Gr.setCell ?_ ?_ _|refine Gr.alloc ?_ ?_ _|refine Gr.trans ?_ (Gr.mono HG2.out ?_)|omega|(simp;done)|(simp;omega)))))).mono ?_;rintro e w3 ⟨rfl,hg3⟩;(try (with_reducible replace hg3:=Gr.of_drew hg3));have hsz3:=hg3.size;(try simp at hsz3);have hy3_0:w2.heap.size<w3.heap.size:=(by omega);obtain ⟨hc3,hf3⟩:=hg3.cells;have HG3:=Lib.hid hg3;clear hg3)
   go_wp2
   go_roundw
   case rel=>exact⟨1,by omega,by go_num,Lib.hid (fun h=>by omega),Lib.hid (by omega),Lib.hid (by(with_reducible (repeat' (first|exact Gr.refl _ _|refine Gr.drew ?_|refine Gr.setCell ?_ ?_ _|refine Gr.alloc ?_ ?_ _|refine Gr.trans ?_ (Gr.mono HG3.out ?_)|refine Gr.trans ?_ (Gr.mono HG2.out ?_)|omega|(simp;done)|(simp;omega)))))⟩
   case measure=>simp [intOf]
  ·simp only [show((1:Nat):Int)=1 from rfl]
   go_wp2
   go_ret
   exact⟨rfl,HG.out⟩
end Go.Proofs.YtmelogdhllhjiaaGreat
namespace Go.Proofs.YtmelogdhllhjiaaGreat
open Go.RowKit Gus Go.Maps
theorem tells_held (q b:Nat) (l:List Tri) (g:Nat) (w:World) (hV:VB w g [.int .i64 (q:Int),.int .i64 (b:Int),.int .i64 0]):TellsIn triV 145 #[.pointer (some ⟨g,0,none⟩)] (fun t=>hasT t q) l w:=
 ⟨enters_of Tryz.func145 (by kernel_rfl) rfl,fun W hW x _=>by
  have e: #[triV x]++ #[Value.pointer (some ⟨g,0,none⟩)]= #[triV x,.pointer (some ⟨g,0,none⟩)]:=by simp
  rw [e]
  have hv:=hV.gr hW hV.lt
  exact held1_walk x q g W hv.lt (hv.c 0 _ rfl)⟩
theorem held_idx (q:Nat) (h:q<3):idxP (fun t=>hasT t q) sqT=0:=by
 rcases(show q=0∨q=1∨q=2 by omega)with rfl|rfl|rfl<;>decide
set_option maxRecDepth 20000 in
set_option maxHeartbeats 8000000 in
theorem held_t (vp:Value) (gt ct gs cs order:Nat) (a b c:Rat) (f gv:Value) (ua a0 a1:Option Addr) (un uc n0 c0 n1 c1:Nat) (w:World) (hM:MS w 0 vp (.slice (some ⟨gt,0,none⟩) 2 ct) (.slice (some ⟨gs,0,none⟩) 4 cs) ⟨sqP,sqT,rmS⟩)
  (hF:∀W,Gr w.heap.size w W→Calls Tryz.prog 143 #[prV ⟨vp,.slice (some ⟨gt,0,none⟩) 2 ct,.slice (some ⟨gs,0,none⟩) 4 cs,order,a,b,c,0,f,gv⟩,.int .i64 0] W (fun e w'=>e= .returned (.tuple #[.agg #[.int .i64 0,.bool true,.slice ua un uc,.slice a0 n0 c0,.slice a1 n1 c1],.bool true])∧Gr W.heap.size W w')):
  Calls Tryz.prog 106 #[prV ⟨vp,.slice (some ⟨gt,0,none⟩) 2 ct,.slice (some ⟨gs,0,none⟩) 4 cs,order,a,b,c,0,f,gv⟩] w (Ret w (.int .i64 0)):=by
 have HF:=Lib.hid hF
 have HP:=Lib.hid (fun W (hW:Gr w.heap.size w W)=>ms_Parts rmS vp (.slice (some ⟨gt,0,none⟩) 2 ct) (.slice (some ⟨gs,0,none⟩) 4 cs) W (hM.gr hW))
 have HT:=Lib.hid hM.2.1
 obtain ⟨gs',cs',hgs,_,hcs,_,hsh,hR⟩:=hM.2.2.block (by simp [rmS])
 cases hgs
 have hlt:=hsh.lt
 have HR:=Lib.hid hR
 have HSg:=Lib.hid (fun (w:World)=>show Calls Tryz.prog 55 #[frV 0 0] w (Ret w (.int .i64 0))from(show sgnI 0=0 from by decide) ▸ Sign_raw 0 0 w)
 clear hF hM hsh hR
 obtain ⟨i0,hi,hz0,hz1,hz2⟩:=info_parts info_bBool
 have hmk:∀W:World,(Instr.makeSlice 201 (.int .i64 1) (.int .i64 1)).run Tryz.prog W= .ok (.slice (some ⟨W.heap.size,0,none⟩) 1 1) (W.alloc (.cells #[.bool false] 4)):=fun W=>by
  have h:=run_make_rowN 201 4 i0 _ Tryz.underlying201 hi hz0 .i64 .i64 1 1 (by omega) (by rw [hz2];omega) (by omega) W
  rw [hz1,show madeCells (Value.bool false).cells (1*1)= #[.bool false]from by kernel_rfl]at h
  exact h
 clear hi hz0 hz1 hz2
 go_enter Tryz.func106,Tryz.ntmps106
 go_wp2_with fail
 (refine(HSg.out _).mono ?_;rintro e w1 ⟨rfl,hg1⟩;(try (with_reducible replace hg1:=Gr.of_drew hg1));have hsz1:=hg1.size;(try simp at hsz1);have hz1_0:w.heap.size<w1.heap.size:=(by omega);obtain ⟨hc1,hf1⟩:=hg1.cells;have HG1:=Lib.hid hg1;clear hg1)
 go_wp2_with fail
 refine(HP.out _ (by(with_reducible (repeat' (first|exact Gr.refl _ _|refine Gr.drew ?_|refine Gr.setCell ?_ ?_ _|refine Gr.alloc ?_ ?_ _|refine Gr.trans ?_ (Gr.mono HG1.out ?_)|omega|(simp;done)|(simp;omega)))))).mono ?_
 rintro e w2 ⟨gp,rfl,hgp,hVP,hg2⟩
 have HGA:=Lib.hid (show Gr w.heap.size w w2 from by have h:=Lib.hid hg2;(with_reducible (repeat' (first|exact Gr.refl _ _|refine Gr.drew ?_|refine Gr.setCell ?_ ?_ _|refine Gr.alloc ?_ ?_ _|refine Gr.trans ?_ (Gr.mono h.out ?_)|refine Gr.trans ?_ (Gr.mono HG1.out ?_)|omega|(simp;done)|(simp;omega)))))
 have HVB:=Lib.hid (show VB w2 w.heap.size (prC ⟨vp,.slice (some ⟨gt,0,none⟩) 2 ct,.slice (some ⟨gs,0,none⟩) 4 cs,order,a,b,c,0,f,gv⟩)from VB.gr (VB.gr (VB.new w _ _) HG1.out (by simp)) hg2 (by omega))
 have HVP:=Lib.hid hVP
 have hgp2:=hVP.lt
 have hgpw:w.heap.size<gp:=by omega
 clear hg2 hVP HG1 hc1 hf1 hgp HP HSg
 try clear hsz1
 try clear hz1_0
 have hs2:w.heap.size<w2.heap.size:=by omega
 have b1:=HVB.out.c 1 (.slice (some ⟨gt,0,none⟩) 2 ct) rfl
 have b2:=HVB.out.c 2 (.slice (some ⟨gs,0,none⟩) 4 cs) rfl
 go_wp2
 have HB1:=Lib.hid (show VB (w2.alloc (.cells #[.bool false] 4)) w.heap.size (prC ⟨vp,.slice (some ⟨gt,0,none⟩) 2 ct,.slice (some ⟨gs,0,none⟩) 4 cs,order,a,b,c,0,f,gv⟩)from HVB.out.alloc _)
 have HP1:=Lib.hid (show VB (w2.alloc (.cells #[.bool false] 4)) gp [.int .i64 0,.int .i64 0]from HVP.out.alloc _)
 have HX1:=Lib.hid (show VB (w2.alloc (.cells #[.bool false] 4)) w2.heap.size [.bool false]from VB.new w2 _ _)
 have HH1:=Lib.hid (show Shx (w2.alloc (.cells #[.bool false] 4)) w2.heap.size 4 from Shx.new w2 _ _)
 have HG1:=Lib.hid (show Gr w.heap.size w (w2.alloc (.cells #[.bool false] 4))from by(with_reducible (repeat' (first|exact Gr.refl _ _|refine Gr.drew ?_|refine Gr.setCell ?_ ?_ _|refine Gr.alloc ?_ ?_ _|refine Gr.trans ?_ (Gr.mono HGA.out ?_)|omega|(simp;done)|(simp;omega)))))
 have hfb:gp<w2.heap.size:=hgp2
 clear HVB HVP HGA hgp2 b1 b2
 generalize w2.alloc (.cells #[.bool false] 4)=w3 at *
 generalize w2.heap.size=fb at *
 go_loopw [27] (fun s wr=> ∃n:Nat,n≤4∧s= .int .i64 n∧Hid (VB wr w.heap.size (prC ⟨vp,.slice (some ⟨gt,0,none⟩) 2 ct,.slice (some ⟨gs,0,none⟩) 4 cs,order,a,b,c,0,f,gv⟩))∧Hid (VB wr gp [.int .i64 0,.int .i64 0])∧Hid (VB wr fb [.bool (decide (0<n))])∧Hid (Shx wr fb 4)∧Hid (Gr w.heap.size w wr)) (fun s _=>4 - (intOf s).toNat)
 case atStart=>exact⟨0,by omega,rfl,HB1,HP1,HX1,HH1,HG1⟩
 case round=>
  clear HB1 HP1 HX1 HH1 HG1
  obtain ⟨n,hn,rfl,HB,HVP,HX,HH,HG⟩:=hrel
  have hszr:=HG.out.size
  have hlb:=HB.out.lt
  have hlp:=HVP.out.lt
  have hlx:=HX.out.lt
  have b1:=HB.out.c 1 (.slice (some ⟨gt,0,none⟩) 2 ct) rfl
  by_cases hlt4:n<4
  ·obtain ⟨A,B,hA,hrm⟩:∃A B:Nat,A<3∧rmS[n]'(by simp [rmS];omega)=(A,B,0):=by
    rcases(show n=0∨n=1∨n=2∨n=3 by omega)with rfl|rfl|rfl|rfl
    ·exact⟨0,1,by omega,rfl⟩
    ·exact⟨0,3,by omega,rfl⟩
    ·exact⟨1,2,by omega,rfl⟩
    ·exact⟨2,3,by omega,rfl⟩
   obtain ⟨v0,v1,v2⟩:=(HR.out.gr HG.out hlt).fTri (j:=n) (by simp [rmS];omega) hrm
   simp only [show((0:Nat):Int)=0 from rfl]at v2
   clear hrm
   have q0:(n:Int)<4:=by omega
   have hwn:IntKind.i64.wrap ((n:Int)+1)=(n:Int)+1:=by rw [IntKind.wrap_i64];omega
   have q1:¬wr.heap.size=w.heap.size:=by omega
   have q2:¬wr.heap.size=gp:=by omega
   have q3:¬wr.heap.size=fb:=by omega
   go_wp2_with (refine wpList_load_mid rfl 66 _ rfl w.heap.size 0 rfl (prC ⟨vp,.slice (some ⟨gt,0,none⟩) 2 ct,.slice (some ⟨gs,0,none⟩) 4 cs,order,a,b,c,0,f,gv⟩) _ (VB.range (by(with_reducible (repeat' (first|(refine VB.new' ?_;exact(by first|omega|(simp;done)|(simp;omega)))|apply VB.put2|apply VB.put3|apply VB.put5|refine VB.drew ?_|refine VB.far ?_ ?_ _|refine VB.alloc ?_ _|exact HB.out|omega|(simp;done)|(simp;omega)))))) Tryz.underlying66 rfl info_Prb ?_)
   refine(HF.out _ (by(with_reducible (repeat' (first|exact Gr.refl _ _|refine Gr.drew ?_|refine Gr.setCell ?_ ?_ _|refine Gr.alloc ?_ ?_ _|refine Gr.trans ?_ (Gr.mono HG.out ?_)|omega|(simp;done)|(simp;omega)))))).mono ?_
   rintro e w4 ⟨rfl,hg4⟩
   have hsz4:=hg4.size
   (try simp at hsz4)
   have HG4:=Lib.hid hg4
   have hx4:wr.heap.size<w4.heap.size:=by omega
   have HS4:=Lib.hid (show VB w4 wr.heap.size [.int .i64 (A:Int),.int .i64 (B:Int),.int .i64 0]from by(with_reducible (repeat' (first|(refine VB.new' ?_;exact(by first|omega|(simp;done)|(simp;omega)))|apply VB.put2|apply VB.put3|apply VB.put5|refine VB.drew ?_|refine VB.far ?_ ?_ _|refine VB.alloc ?_ _|refine VB.gr ?_ HG4.out ?_|omega|(simp;done)|(simp;omega)))))
   have HP4:=Lib.hid (show VB w4 gp [.int .i64 0,.int .i64 0]from by(with_reducible (repeat' (first|(refine VB.new' ?_;exact(by first|omega|(simp;done)|(simp;omega)))|apply VB.put2|apply VB.put3|apply VB.put5|refine VB.drew ?_|refine VB.far ?_ ?_ _|refine VB.alloc ?_ _|exact HVP.out|refine VB.gr ?_ HG4.out ?_|omega|(simp;done)|(simp;omega)))))
   have HX4:=Lib.hid (show VB w4 fb [.bool (decide (0<n))]from by(with_reducible (repeat' (first|(refine VB.new' ?_;exact(by first|omega|(simp;done)|(simp;omega)))|apply VB.put2|apply VB.put3|apply VB.put5|refine VB.drew ?_|refine VB.far ?_ ?_ _|refine VB.alloc ?_ _|exact HX.out|refine VB.gr ?_ HG4.out ?_|omega|(simp;done)|(simp;omega)))))
   have HB4:=Lib.hid (show VB w4 w.heap.size (prC ⟨vp,.slice (some ⟨gt,0,none⟩) 2 ct,.slice (some ⟨gs,0,none⟩) 4 cs,order,a,b,c,0,f,gv⟩)from by(with_reducible (repeat' (first|(refine VB.new' ?_;exact(by first|omega|(simp;done)|(simp;omega)))|apply VB.put2|apply VB.put3|apply VB.put5|refine VB.drew ?_|refine VB.far ?_ ?_ _|refine VB.alloc ?_ _|exact HB.out|refine VB.gr ?_ HG4.out ?_|omega|(simp;done)|(simp;omega)))))
   have HGQ:=Lib.hid (show Gr wr.heap.size wr w4 from by(with_reducible (repeat' (first|exact Gr.refl _ _|refine Gr.drew ?_|refine Gr.setCell ?_ ?_ _|refine Gr.alloc ?_ ?_ _|refine Gr.trans ?_ (Gr.mono HG4.out ?_)|omega|(simp;done)|(simp;omega)))))
   clear hg4
   have p0:=HP4.out.c 0 (.int .i64 0) rfl
   have x0:=HX4.out.c 0 (.bool (decide (0<n))) rfl
   have x1:=HX4.out.f 0 (by simp)
   have z1:=HB4.out.c 1 (.slice (some ⟨gt,0,none⟩) 2 ct) rfl
   have hq1:gp<w4.heap.size+1:=by omega
   have hq2:fb<w4.heap.size+1:=by omega
   have hq3:w.heap.size<w4.heap.size+1:=by omega
   have hq4:gp<w4.heap.size:=by omega
   have hq5:fb<w4.heap.size:=by omega
   have hq6:w.heap.size<w4.heap.size:=by omega
   go_wp2_with fail
   refine(held_idx A hA ▸ index_Tri sqT _ 0 96 _ (HT.out.gr (by(with_reducible (repeat' (first|exact Gr.refl _ _|refine Gr.drew ?_|refine Gr.setCell ?_ ?_ _|refine Gr.alloc ?_ ?_ _|refine Gr.trans ?_ (Gr.mono HGQ.out ?_)|refine Gr.trans ?_ (Gr.mono HG.out ?_)|omega|(simp;done)|(simp;omega)))))) (tells_held A B sqT wr.heap.size _ (VB.alloc HS4.out _))).mono ?_
   rintro e w5 ⟨rfl,hg5⟩;(try with_reducible replace hg5:=Gr.of_drew hg5);have hsz5:=hg5.size;(try simp at hsz5);obtain ⟨hc5,hf5⟩:=hg5.cells;have HG5:=Lib.hid hg5;clear hg5
   go_wp2
   go_roundw
   case rel=>exact⟨n+1,by omega,by go_num,Lib.hid (by(with_reducible (repeat' (first|(refine VB.new' ?_;exact(by first|omega|(simp;done)|(simp;omega)))|apply VB.put2|apply VB.put3|apply VB.put5|refine VB.drew ?_|refine VB.far ?_ ?_ _|refine VB.alloc ?_ _|exact HB4.out|refine VB.gr ?_ HG5.out ?_|omega|(simp;done)|(simp;omega))))),Lib.hid (by(with_reducible (repeat' (first|(refine VB.new' ?_;exact(by first|omega|(simp;done)|(simp;omega)))|apply VB.put2|apply VB.put3|apply VB.put5|refine VB.drew ?_|refine VB.far ?_ ?_ _|refine VB.alloc ?_ _|exact HP4.out|refine VB.gr ?_ HG5.out ?_|omega|(simp;done)|(simp;omega))))),Lib.hid (VB.part 0 [.bool true] (show VB w5 fb [.bool (decide (0<n))]from by(with_reducible (repeat' (first|(refine VB.new' ?_;exact(by first|omega|(simp;done)|(simp;omega)))|apply VB.put2|apply VB.put3|apply VB.put5|refine VB.drew ?_|refine VB.far ?_ ?_ _|refine VB.alloc ?_ _|exact HX4.out|refine VB.gr ?_ HG5.out ?_|omega|(simp;done)|(simp;omega))))) (by simp) (by simp)),Lib.hid ((HH.out.gr (show Gr wr.heap.size wr w5 from by(with_reducible (repeat' (first|exact Gr.refl _ _|refine Gr.drew ?_|refine Gr.setCell ?_ ?_ _|refine Gr.alloc ?_ ?_ _|refine Gr.trans ?_ (Gr.mono HG5.out ?_)|refine Gr.trans ?_ (Gr.mono HGQ.out ?_)|omega|(simp;done)|(simp;omega))))) hlx).set _ _),Lib.hid (by(with_reducible (repeat' (first|exact Gr.refl _ _|refine Gr.drew ?_|refine Gr.setCell ?_ ?_ _|refine Gr.alloc ?_ ?_ _|refine Gr.trans ?_ (Gr.mono HG5.out ?_)|refine Gr.trans ?_ (Gr.mono HGQ.out ?_)|refine Gr.trans ?_ (Gr.mono HG.out ?_)|omega|(simp;done)|(simp;omega)))))⟩
   case measure=>simp [intOf];omega
  ·obtain rfl:n=4:=by omega
   simp only [show((4:Nat):Int)=4 from rfl]
   go_wp2_with fail
   (refine(contains_Bo [true] _ 0 4 _ (.inr ⟨fb,1,rfl,by omega,by simp,by simp [maxLen],HH.out,fun j hj i u hu=>by
      simp at hj
      subst hj
      have h:=HX.out.c i u (by simpa using hu)
      simpa using h⟩)).mono ?_;rintro e w6 ⟨rfl,hg6⟩;(try (with_reducible replace hg6:=Gr.of_drew hg6));have hsz6:=hg6.size;(try simp at hsz6);skip;obtain ⟨hc6,hf6⟩:=hg6.cells;have HG6:=Lib.hid hg6;clear hg6)
   go_wp2
   go_ret
   exact⟨by simp,by(with_reducible (repeat' (first|exact Gr.refl _ _|refine Gr.drew ?_|refine Gr.setCell ?_ ?_ _|refine Gr.alloc ?_ ?_ _|refine Gr.trans ?_ (Gr.mono HG6.out ?_)|refine Gr.trans ?_ (Gr.mono HG.out ?_)|omega|(simp;done)|(simp;omega))))⟩
set_option maxRecDepth 20000 in
set_option maxHeartbeats 8000000 in
theorem held_f (vp:Value) (gt ct gs cs order:Nat) (a b c:Rat) (f gv:Value) (ua a0 a1:Option Addr) (un uc n0 c0 n1 c1:Nat) (w:World) (hM:MS w 0 vp (.slice (some ⟨gt,0,none⟩) 2 ct) (.slice (some ⟨gs,0,none⟩) 4 cs) ⟨sqP,sqT,rmS⟩)
  (hF:∀W,Gr w.heap.size w W→Calls Tryz.prog 143 #[prV ⟨vp,.slice (some ⟨gt,0,none⟩) 2 ct,.slice (some ⟨gs,0,none⟩) 4 cs,order,a,b,c,0,f,gv⟩,.int .i64 0] W (fun e w'=>e= .returned (.tuple #[.agg #[.int .i64 0,.bool false,.slice ua un uc,.slice a0 n0 c0,.slice a1 n1 c1],.bool true])∧Gr W.heap.size W w')):
  Calls Tryz.prog 106 #[prV ⟨vp,.slice (some ⟨gt,0,none⟩) 2 ct,.slice (some ⟨gs,0,none⟩) 4 cs,order,a,b,c,0,f,gv⟩] w (Ret w (.int .i64 6)):=by
 have HF:=Lib.hid hF
 have HP:=Lib.hid (fun W (hW:Gr w.heap.size w W)=>ms_Parts rmS vp (.slice (some ⟨gt,0,none⟩) 2 ct) (.slice (some ⟨gs,0,none⟩) 4 cs) W (hM.gr hW))
 have HT:=Lib.hid hM.2.1
 obtain ⟨gs',cs',hgs,_,hcs,_,hsh,hR⟩:=hM.2.2.block (by simp [rmS])
 cases hgs
 have hlt:=hsh.lt
 have HR:=Lib.hid hR
 have HSg:=Lib.hid (fun (w:World)=>show Calls Tryz.prog 55 #[frV 0 0] w (Ret w (.int .i64 0))from(show sgnI 0=0 from by decide) ▸ Sign_raw 0 0 w)
 clear hF hM hsh hR
 obtain ⟨i0,hi,hz0,hz1,hz2⟩:=info_parts info_bBool
 have hmk:∀W:World,(Instr.makeSlice 201 (.int .i64 1) (.int .i64 1)).run Tryz.prog W= .ok (.slice (some ⟨W.heap.size,0,none⟩) 1 1) (W.alloc (.cells #[.bool false] 4)):=fun W=>by
  have h:=run_make_rowN 201 4 i0 _ Tryz.underlying201 hi hz0 .i64 .i64 1 1 (by omega) (by rw [hz2];omega) (by omega) W
  rw [hz1,show madeCells (Value.bool false).cells (1*1)= #[.bool false]from by kernel_rfl]at h
  exact h
 clear hi hz0 hz1 hz2
 go_enter Tryz.func106,Tryz.ntmps106
 go_wp2_with fail
 (refine(HSg.out _).mono ?_;rintro e w1 ⟨rfl,hg1⟩;(try (with_reducible replace hg1:=Gr.of_drew hg1));have hsz1:=hg1.size;(try simp at hsz1);have hz1_0:w.heap.size<w1.heap.size:=(by omega);obtain ⟨hc1,hf1⟩:=hg1.cells;have HG1:=Lib.hid hg1;clear hg1)
 go_wp2_with fail
 refine(HP.out _ (by(with_reducible (repeat' (first|exact Gr.refl _ _|refine Gr.drew ?_|refine Gr.setCell ?_ ?_ _|refine Gr.alloc ?_ ?_ _|refine Gr.trans ?_ (Gr.mono HG1.out ?_)|omega|(simp;done)|(simp;omega)))))).mono ?_
 rintro e w2 ⟨gp,rfl,hgp,hVP,hg2⟩
 have HGA:=Lib.hid (show Gr w.heap.size w w2 from by have h:=Lib.hid hg2;(with_reducible (repeat' (first|exact Gr.refl _ _|refine Gr.drew ?_|refine Gr.setCell ?_ ?_ _|refine Gr.alloc ?_ ?_ _|refine Gr.trans ?_ (Gr.mono h.out ?_)|refine Gr.trans ?_ (Gr.mono HG1.out ?_)|omega|(simp;done)|(simp;omega)))))
 have HVB:=Lib.hid (show VB w2 w.heap.size (prC ⟨vp,.slice (some ⟨gt,0,none⟩) 2 ct,.slice (some ⟨gs,0,none⟩) 4 cs,order,a,b,c,0,f,gv⟩)from VB.gr (VB.gr (VB.new w _ _) HG1.out (by simp)) hg2 (by omega))
 have HVP:=Lib.hid hVP
 have hgp2:=hVP.lt
 have hgpw:w.heap.size<gp:=by omega
 clear hg2 hVP HG1 hc1 hf1 hgp HP HSg
 try clear hsz1
 try clear hz1_0
 have hs2:w.heap.size<w2.heap.size:=by omega
 have b1:=HVB.out.c 1 (.slice (some ⟨gt,0,none⟩) 2 ct) rfl
 have b2:=HVB.out.c 2 (.slice (some ⟨gs,0,none⟩) 4 cs) rfl
 go_wp2
 have HB1:=Lib.hid (show VB (w2.alloc (.cells #[.bool false] 4)) w.heap.size (prC ⟨vp,.slice (some ⟨gt,0,none⟩) 2 ct,.slice (some ⟨gs,0,none⟩) 4 cs,order,a,b,c,0,f,gv⟩)from HVB.out.alloc _)
 have HP1:=Lib.hid (show VB (w2.alloc (.cells #[.bool false] 4)) gp [.int .i64 0,.int .i64 0]from HVP.out.alloc _)
 have HX1:=Lib.hid (show VB (w2.alloc (.cells #[.bool false] 4)) w2.heap.size [.bool false]from VB.new w2 _ _)
 have HH1:=Lib.hid (show Shx (w2.alloc (.cells #[.bool false] 4)) w2.heap.size 4 from Shx.new w2 _ _)
 have HG1:=Lib.hid (show Gr w.heap.size w (w2.alloc (.cells #[.bool false] 4))from by(with_reducible (repeat' (first|exact Gr.refl _ _|refine Gr.drew ?_|refine Gr.setCell ?_ ?_ _|refine Gr.alloc ?_ ?_ _|refine Gr.trans ?_ (Gr.mono HGA.out ?_)|omega|(simp;done)|(simp;omega)))))
 have hfb:gp<w2.heap.size:=hgp2
 clear HVB HVP HGA hgp2 b1 b2
 generalize w2.alloc (.cells #[.bool false] 4)=w3 at *
 generalize w2.heap.size=fb at *
 go_loopw [27] (fun s wr=> ∃n:Nat,n≤4∧s= .int .i64 n∧Hid (VB wr w.heap.size (prC ⟨vp,.slice (some ⟨gt,0,none⟩) 2 ct,.slice (some ⟨gs,0,none⟩) 4 cs,order,a,b,c,0,f,gv⟩))∧Hid (VB wr gp [.int .i64 0,.int .i64 0])∧Hid (VB wr fb [.bool false])∧Hid (Shx wr fb 4)∧Hid (Gr w.heap.size w wr)) (fun s _=>4 - (intOf s).toNat)
 case atStart=>exact⟨0,by omega,rfl,HB1,HP1,HX1,HH1,HG1⟩
 case round=>
  clear HB1 HP1 HX1 HH1 HG1
  obtain ⟨n,hn,rfl,HB,HVP,HX,HH,HG⟩:=hrel
  have hszr:=HG.out.size
  have hlb:=HB.out.lt
  have hlp:=HVP.out.lt
  have hlx:=HX.out.lt
  have b1:=HB.out.c 1 (.slice (some ⟨gt,0,none⟩) 2 ct) rfl
  by_cases hlt4:n<4
  ·obtain ⟨A,B,hA,hrm⟩:∃A B:Nat,A<3∧rmS[n]'(by simp [rmS];omega)=(A,B,0):=by
    rcases(show n=0∨n=1∨n=2∨n=3 by omega)with rfl|rfl|rfl|rfl
    ·exact⟨0,1,by omega,rfl⟩
    ·exact⟨0,3,by omega,rfl⟩
    ·exact⟨1,2,by omega,rfl⟩
    ·exact⟨2,3,by omega,rfl⟩
   obtain ⟨v0,v1,v2⟩:=(HR.out.gr HG.out hlt).fTri (j:=n) (by simp [rmS];omega) hrm
   simp only [show((0:Nat):Int)=0 from rfl]at v2
   clear hrm
   have q0:(n:Int)<4:=by omega
   have hwn:IntKind.i64.wrap ((n:Int)+1)=(n:Int)+1:=by rw [IntKind.wrap_i64];omega
   have q1:¬wr.heap.size=w.heap.size:=by omega
   have q2:¬wr.heap.size=gp:=by omega
   have q3:¬wr.heap.size=fb:=by omega
   go_wp2_with (refine wpList_load_mid rfl 66 _ rfl w.heap.size 0 rfl (prC ⟨vp,.slice (some ⟨gt,0,none⟩) 2 ct,.slice (some ⟨gs,0,none⟩) 4 cs,order,a,b,c,0,f,gv⟩) _ (VB.range (by(with_reducible (repeat' (first|(refine VB.new' ?_;exact(by first|omega|(simp;done)|(simp;omega)))|apply VB.put2|apply VB.put3|apply VB.put5|refine VB.drew ?_|refine VB.far ?_ ?_ _|refine VB.alloc ?_ _|exact HB.out|omega|(simp;done)|(simp;omega)))))) Tryz.underlying66 rfl info_Prb ?_)
   refine(HF.out _ (by(with_reducible (repeat' (first|exact Gr.refl _ _|refine Gr.drew ?_|refine Gr.setCell ?_ ?_ _|refine Gr.alloc ?_ ?_ _|refine Gr.trans ?_ (Gr.mono HG.out ?_)|omega|(simp;done)|(simp;omega)))))).mono ?_
   rintro e w4 ⟨rfl,hg4⟩
   have hsz4:=hg4.size
   (try simp at hsz4)
   have HG4:=Lib.hid hg4
   have hx4:wr.heap.size<w4.heap.size:=by omega
   have HS4:=Lib.hid (show VB w4 wr.heap.size [.int .i64 (A:Int),.int .i64 (B:Int),.int .i64 0]from by(with_reducible (repeat' (first|(refine VB.new' ?_;exact(by first|omega|(simp;done)|(simp;omega)))|apply VB.put2|apply VB.put3|apply VB.put5|refine VB.drew ?_|refine VB.far ?_ ?_ _|refine VB.alloc ?_ _|refine VB.gr ?_ HG4.out ?_|omega|(simp;done)|(simp;omega)))))
   have HP4:=Lib.hid (show VB w4 gp [.int .i64 0,.int .i64 0]from by(with_reducible (repeat' (first|(refine VB.new' ?_;exact(by first|omega|(simp;done)|(simp;omega)))|apply VB.put2|apply VB.put3|apply VB.put5|refine VB.drew ?_|refine VB.far ?_ ?_ _|refine VB.alloc ?_ _|exact HVP.out|refine VB.gr ?_ HG4.out ?_|omega|(simp;done)|(simp;omega)))))
   have HX4:=Lib.hid (show VB w4 fb [.bool false]from by(with_reducible (repeat' (first|(refine VB.new' ?_;exact(by first|omega|(simp;done)|(simp;omega)))|apply VB.put2|apply VB.put3|apply VB.put5|refine VB.drew ?_|refine VB.far ?_ ?_ _|refine VB.alloc ?_ _|exact HX.out|refine VB.gr ?_ HG4.out ?_|omega|(simp;done)|(simp;omega)))))
   have HB4:=Lib.hid (show VB w4 w.heap.size (prC ⟨vp,.slice (some ⟨gt,0,none⟩) 2 ct,.slice (some ⟨gs,0,none⟩) 4 cs,order,a,b,c,0,f,gv⟩)from by(with_reducible (repeat' (first|(refine VB.new' ?_;exact(by first|omega|(simp;done)|(simp;omega)))|apply VB.put2|apply VB.put3|apply VB.put5|refine VB.drew ?_|refine VB.far ?_ ?_ _|refine VB.alloc ?_ _|exact HB.out|refine VB.gr ?_ HG4.out ?_|omega|(simp;done)|(simp;omega)))))
   have HGQ:=Lib.hid (show Gr wr.heap.size wr w4 from by(with_reducible (repeat' (first|exact Gr.refl _ _|refine Gr.drew ?_|refine Gr.setCell ?_ ?_ _|refine Gr.alloc ?_ ?_ _|refine Gr.trans ?_ (Gr.mono HG4.out ?_)|omega|(simp;done)|(simp;omega)))))
   clear hg4
   go_wp2
   go_roundw
   case rel=>exact⟨n+1,by omega,by go_num,Lib.hid (by(with_reducible (repeat' (first|(refine VB.new' ?_;exact(by first|omega|(simp;done)|(simp;omega)))|apply VB.put2|apply VB.put3|apply VB.put5|refine VB.drew ?_|refine VB.far ?_ ?_ _|refine VB.alloc ?_ _|exact HB4.out|omega|(simp;done)|(simp;omega))))),Lib.hid (by(with_reducible (repeat' (first|(refine VB.new' ?_;exact(by first|omega|(simp;done)|(simp;omega)))|apply VB.put2|apply VB.put3|apply VB.put5|refine VB.drew ?_|refine VB.far ?_ ?_ _|refine VB.alloc ?_ _|exact HP4.out|omega|(simp;done)|(simp;omega))))),Lib.hid (by(with_reducible (repeat' (first|(refine VB.new' ?_;exact(by first|omega|(simp;done)|(simp;omega)))|apply VB.put2|apply VB.put3|apply VB.put5|refine VB.drew ?_|refine VB.far ?_ ?_ _|refine VB.alloc ?_ _|exact HX4.out|omega|(simp;done)|(simp;omega))))),Lib.hid (HH.out.gr (show Gr wr.heap.size wr _ from by(with_reducible (repeat' (first|exact Gr.refl _ _|refine Gr.drew ?_|refine Gr.setCell ?_ ?_ _|refine Gr.alloc ?_ ?_ _|refine Gr.trans ?_ (Gr.mono HGQ.out ?_)|omega|(simp;done)|(simp;omega))))) hlx),Lib.hid (by(with_reducible (repeat' (first|exact Gr.refl _ _|refine Gr.drew ?_|refine Gr.setCell ?_ ?_ _|refine Gr.alloc ?_ ?_ _|refine Gr.trans ?_ (Gr.mono HGQ.out ?_)|refine Gr.trans ?_ (Gr.mono HG.out ?_)|omega|(simp;done)|(simp;omega)))))⟩
   case measure=>simp [intOf];omega
  ·obtain rfl:n=4:=by omega
   simp only [show((4:Nat):Int)=4 from rfl]
   go_wp2_with fail
   (refine(contains_Bo [false] _ 0 4 _ (.inr ⟨fb,1,rfl,by omega,by simp,by simp [maxLen],HH.out,fun j hj i u hu=>by
      simp at hj
      subst hj
      have h:=HX.out.c i u (by simpa using hu)
      simpa using h⟩)).mono ?_;rintro e w6 ⟨rfl,hg6⟩;(try (with_reducible replace hg6:=Gr.of_drew hg6));have hsz6:=hg6.size;(try simp at hsz6);skip;obtain ⟨hc6,hf6⟩:=hg6.cells;have HG6:=Lib.hid hg6;clear hg6)
   go_wp2
   go_ret
   exact⟨by simp,by(with_reducible (repeat' (first|exact Gr.refl _ _|refine Gr.drew ?_|refine Gr.setCell ?_ ?_ _|refine Gr.alloc ?_ ?_ _|refine Gr.trans ?_ (Gr.mono HG6.out ?_)|refine Gr.trans ?_ (Gr.mono HG.out ?_)|omega|(simp;done)|(simp;omega))))⟩
end Go.Proofs.YtmelogdhllhjiaaGreat
