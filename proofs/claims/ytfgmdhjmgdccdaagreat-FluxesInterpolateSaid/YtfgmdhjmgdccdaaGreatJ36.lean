/-
  Part 36 of the proof: FluB.
-/
import Derived.Test.YtfgmdhjmgdccdaaGreatJ35
import Derived.Test.YtfgmdhjmgdccdaaGreatJ28
import Derived.Test.YtfgmdhjmgdccdaaGreatJ17
set_option linter.unusedSimpArgs false
set_option linter.unusedVariables false
set_option maxHeartbeats 8000000
namespace Go.Proofs.YtfgmdhjmgdccdaaGreat
open Go.RowKit Gus Go.Maps
theorem run_idxP (a b c:Pt) (n:Nat) (v:Value) (hv:([pV a,pV b,pV c])[n]? =some v) (w:World):(Instr.index 197 (.agg #[vA a.x,vB a.x,vC a.x,vD a.x,vE a.x,vA a.y,vB a.y,vC a.y,vD a.y,vE a.y,vA b.x,vB b.x,vC b.x,vD b.x,vE b.x,vA b.y,vB b.y,vC b.y,vD b.y,vE b.y,vA c.x,vB c.x,vC c.x,vD c.x,vE c.x,vA c.y,vB c.y,vC c.y,vD c.y,vE c.y]) (.int .i64 (n:Int))).run Tryz.prog w= .ok v w:=by
 have hu:Tryz.prog.underlying 197=some (.array 3 64):=by kernel_rfl
 have hu2:Tryz.prog.underlying 64=some (.struct ((Tryz.prog.underlying 64).bind (fun| .struct fs=>some fs|_=>none)).get!):=by kernel_rfl
 have hs1:Tryz.t64.size=10:=by kernel_rfl
 rcases(show n=0∨n=1∨n=2∨3≤n by omega)with rfl|rfl|rfl|h
 ·cases hv
  show _=_
  simp [Instr.index,run_underlying hu,run_underlying hu2,Go.part,Go.isAgg,hs1,asIntOf]
 ·cases hv
  show _=_
  simp [Instr.index,run_underlying hu,run_underlying hu2,Go.part,Go.isAgg,hs1,asIntOf]
 ·cases hv
  show _=_
  simp [Instr.index,run_underlying hu,run_underlying hu2,Go.part,Go.isAgg,hs1,asIntOf]
 ·rw [List.getElem?_eq_none (by simpa using h)]at hv;cases hv
theorem run_idxL {a b c:Pt} {L3:List Value} (hL:L3=c3C a b c) {n:Nat} {p:Pt} (hp: [a,b,c][n]? =some p) (w:World):(Instr.index 197 (.agg L3.toArray) (.int .i64 (n:Int))).run Tryz.prog w= .ok (pV p) w:=by
 subst hL
 refine run_idxP a b c n (pV p) ?_ w
 rcases(show n=0∨n=1∨n=2∨3≤n by omega)with rfl|rfl|rfl|h
 ·cases hp;rfl
 ·cases hp;rfl
 ·cases hp;rfl
 ·rw [List.getElem?_eq_none (by simpa using h)]at hp;cases hp
theorem info_B6:(Tryz.prog.info? 151).map (·.size)=some 6:=by kernel_rfl
theorem SL.fars {α:Type} {enc:α→List Value} {k:Nat} {t:TypeId} {B g:Nat} {v:Value} {l:List α} (hg:g<B):∀(vs:List Value) (o:Nat) {w:World},SL enc k t w B v l→SL enc k t (w.setCells g o vs) B v l
 | [],_,_,h=>h
 | x :: vs,o,_,h=>SL.fars hg vs (o+1) (h.far hg x)
theorem wpList_stow2 {P:Program} {ops:Array Oper} {rest:List Oper} {op:Oper} {a:Act} {w:World} {Q:Exit→Act→World→Prop} (hgd:op.guard=none) (ty:TypeId) (x y:Operand) (ho:op.op= .store ty x y) (b:Nat) (cs old:List Value)
  (hx:a.eval x= .pointer (some ⟨b,0,none⟩)) (hy:a.eval y= .agg cs.toArray) (hv:VB w b old) (hl:cs.length=old.length) (hi:(P.info? ty).map (·.size)=some cs.length) (h1:∀v∈cs,v.oneCell'=true) (b2:Nat) (c2:List Value) (hv2:VB w b2 c2) (hne:b≠b2)
  (h:∀w',VB w' b cs→VB w' b2 c2→Gr b w w'→wpList P ops Q rest (a.put op.dst undef) w'):wpList P ops Q (op :: rest) a w:=
 wpList_store_mid hgd ty x y ho b 0 cs.toArray hx hy (by have:=hv.there;rw [←hl]at this;simpa using this) (by simpa using hi) (all_oneCell_toArray h1) (h _ (by simpa using hv.set cs hl) (by simpa using VB.fars hne _ _ hv2) (by simpa using Gr.sets (Nat.le_refl _) cs 0 (Gr.refl b w)))
set_option maxRecDepth 20000 in
theorem basis_raw (a b c:Pt) (L3:List Value) (hL:L3=c3C a b c) (q r1 r2 tqr by_:Rat) (DX DY BX BY:Pt→List T) (j:Nat) (vp vt vs:Value) (w:World) (hC:∀W,Gr w.heap.size w W→Calls Tryz.prog 113 #[.agg #[vp,vt,vs],.int .i64 (j:Int)] W (Ret W (.tuple #[.agg L3.toArray,fracV q]))) (h1:∀W,Calls Tryz.prog 28 #[.int .i64 1] W (Ret W (fracV r1))) (h2:∀W,Calls Tryz.prog 28 #[.int .i64 2] W (Ret W (fracV r2))) (hM:∀W,Calls Tryz.prog 37 #[fracV r2,fracV q] W (Ret W (fracV tqr))) (hD:∀W,Calls Tryz.prog 69 #[fracV r1,fracV tqr] W (Ret W (.tuple #[fracV by_,.int .i64 0]))) (hX:∀W,Calls Tryz.prog 24 #[] W (RetP W xL)) (hKX:∀p∈ [a,b,c],∀W,Calls Tryz.prog 19 #[fracV p.x] W (RetP W (constT p.x))) (hSX:∀p∈ [a,b,c],∀v u W,PL W 0 v xL→PL W 0 u (constT p.x)→Calls Tryz.prog 114 #[v,u] W (RetP W (DX p))) (hTX:∀p∈ [a,b,c],∀v W,PL W 0 v (DX p)→Calls Tryz.prog 17 #[v,fracV by_] W (RetP W (BX p))) (hY:∀W,Calls Tryz.prog 25 #[] W (RetP W yL)) (hKY:∀p∈ [a,b,c],∀W,Calls Tryz.prog 19 #[fracV p.y] W (RetP W (constT p.y))) (hSY:∀p∈ [a,b,c],∀v u W,PL W 0 v yL→PL W 0 u (constT p.y)→Calls Tryz.prog 114 #[v,u] W (RetP W (DY p))) (hTY:∀p∈ [a,b,c],∀v W,PL W 0 v (DY p)→Calls Tryz.prog 17 #[v,fracV by_] W (RetP W (BY p))):
  Calls Tryz.prog 76 #[.agg #[vp,vt,vs],.int .i64 (j:Int)] w (fun e w'=> ∃x0 y0 x1 y1 x2 y2:Value,e= .returned (.agg #[x0,y0,x1,y1,x2,y2])∧PL w' w.heap.size x0 (BX a)∧PL w' w.heap.size y0 (BY a)∧PL w' w.heap.size x1 (BX b)∧PL w' w.heap.size y1 (BY b)∧PL w' w.heap.size x2 (BX c)∧PL w' w.heap.size y2 (BY c)∧Gr w.heap.size w w'):=by
 have HC:=Lh hC
 have H1:=Lh h1
 have H2:=Lh h2
 have HM:=Lh hM
 have HD:=Lh hD
 have HX:=Lh hX
 have HKX:=Lh hKX
 have HSX:=Lh hSX
 have HTX:=Lh hTX
 have HY:=Lh hY
 have HKY:=Lh hKY
 have HSY:=Lh hSY
 have HTY:=Lh hTY
 clear hC h1 h2 hM hD hX hKX hSX hTX hY hKY hSY hTY
 have HL:=Lh hL
 have HLL:=Lh (show L3.length=([zU,zS,.bool false,zU,zS,zU,zS,.bool false,zU,zS,zU,zS,.bool false,zU,zS,zU,zS,.bool false,zU,zS,zU,zS,.bool false,zU,zS,zU,zS,.bool false,zU,zS]:List Value).length from by rw [hL];rfl)
 have HLI:=Lh (show(Tryz.prog.info? 197).map (·.size)=some L3.length from by rw [hL];exact info_P3)
 have HLO:=Lh (show ∀v∈L3,v.oneCell'=true from by rw [hL];exact c3C_one _ _ _)
 clear hL
 go_enter Tryz.func76,Tryz.ntmps76
 go_wp2_with fail
 (refine rtt (HC.out _ (by exact gzz)) fun w1 hsz1 hc1 hf1 HG1=>?_;(try simp at hsz1);have hz1_0:w.heap.size<w1.heap.size:=(by omega);have hz1_1:w.heap.size+1<w1.heap.size:=(by omega))
 iterate 17 (first|go_values|go_skip|go_guarded|go_step|go_upon|go_simp)
 (refine wpList_stow2 rfl 197 _ _ rfl w1.heap.size L3 [zU,zS,.bool false,zU,zS,zU,zS,.bool false,zU,zS,zU,zS,.bool false,zU,zS,zU,zS,.bool false,zU,zS,zU,zS,.bool false,zU,zS,zU,zS,.bool false,zU,zS] rfl rfl (by exact vbb) HLL.out HLI.out HLO.out (w1.heap.size+1) [zU,zS,.bool false,zU,zS] (by exact vbb) (by omega) ?_;intro w2 hv2 hv3 hg2;have hsz2:=hg2.size;(try simp at hsz2);have HV5:=Lh hv2;have HV3:=Lh hv3;have HG2:=Lh (show Gr w1.heap.size w1 w2 from Gr.trans (by exact gzz) (hg2.mono (by omega)));clear hv2 hv3 hg2)
 simp only [pS]
 (refine wpList_stow2 rfl 59 _ _ rfl (w1.heap.size+1) [vA q,vB q,vC q,vD q,vE q] [zU,zS,.bool false,zU,zS] rfl rfl HV3.out rfl info_Frac (by simp [Value.oneCell']) w1.heap.size L3 HV5.out (by omega) ?_;intro wy hv2 hv3 hg2;have hszy:=hg2.size;have HV6:=Lh hv2;have HV5y:=Lh hv3;have HGy:=Lh (show Gr w1.heap.size w1 wy from HG2.out.trans (hg2.mono (by omega)));clear hv2 hv3 hg2)
 simp only [pS]
 go_upto_region 2 with fail
 have HV4:=Lh (show VB wy (w.heap.size+1) [.slice none 0 0,.slice none 0 0,.slice none 0 0,.slice none 0 0,.slice none 0 0,.slice none 0 0]from by exact vbc HGy (vbc HG1 vbb))
 have HGW:=Lh (show Gr w.heap.size w wy from by exact gcc HGy (gcc HG1 gzz))
 have hb9:w.heap.size+1<w1.heap.size:=by omega
 have hl6:=HV6.out.lt
 have hl5:=HV5y.out.lt
 generalize w1.heap.size=b5 at *
 obtain ⟨b6,hb6⟩:∃q,b5+1=q:=⟨_,rfl⟩
 rw [hb6]at HV6 hl6 ⊢
 clear HG1 HC HV5 HV3 HG2 HGy
 obtain ⟨q0,q1,q2,q3,q4,-⟩:=HV6.out.five
 have h4y:w.heap.size+1<wy.heap.size:=by omega
 have h45:w.heap.size+1<b5:=by omega
 have h56:b5≠b6:=by omega
 clear hb6
 go_cut [7,8] (fun s7 s8 wx=> ∃g7:Nat,s7= .pointer (some ⟨g7,0,none⟩)∧VB wx g7 [vA by_,vB by_,vC by_,vD by_,vE by_]∧wy.heap.size≤g7∧Gr wy.heap.size wy wx)
 case first=>
  refine wp_region_held_drew (S:=(fun w'=>w'.cell? ⟨b6,0,none⟩=some (vA q)∧w'.cell? ⟨b6,1,none⟩=some (vB q)∧w'.cell? ⟨b6,2,none⟩=some (vC q)∧w'.cell? ⟨b6,3,none⟩=some (vD q)∧w'.cell? ⟨b6,4,none⟩=some (vE q))) (by kernel_rfl) ?_ (fun hHeld=>?_)
  ·simp [go_sem, *]
  refine tq 2 20 (fracV q) ?_
  refine rdZ 0 8 (fun K hK=>?_) (fun K hK=>?_)
  ·go_simp
   (refine rtt (H1.out _) fun w2 hsz2 hc2 hf2 HG2=>?_;(try simp at hsz2);have hy2_0:b6<w2.heap.size:=(by omega))
   refine kO hK fun hQ1=>?_
   clear hK K hHeld
   refine rdZ 1 8 (fun K hK=>?_) (fun K hK=>?_)
   ·go_simp
    (refine rtt (H2.out _) fun w3 hsz3 hc3 hf3 HG3=>?_;(try simp at hsz3);have hy3_0:b6<w3.heap.size:=(by omega))
    refine kO hK fun hQ2=>?_
    clear hK K hQ1
    refine rdZ 3 8 (fun K hK=>?_) (fun K hK=>?_)
    ·go_simp
     (refine rtt (HM.out _) fun w4 hsz4 hc4 hf4 HG4=>?_;(try simp at hsz4);have hy4_0:b6<w4.heap.size:=(by omega))
     (try dsimp only)
     refine hK.out _ _ ?_ (fun hQ3=>?_)
     ·(first|exact trivial|((try dsimp only);simp [go_sem, *]))
     clear hK K hQ2
     try simp only [pS]
     refine rdZ 4 8 (fun K hK=>?_) (fun K hK=>?_)
     ·go_simp
      (refine rtt (HD.out _) fun w5 hsz5 hc5 hf5 HG5=>?_;(try simp at hsz5);have hy5_0:b6<w5.heap.size:=(by omega))
      (try dsimp only)
      refine hK.out _ _ ?_ (fun hQ4=>?_)
      ·(first|exact trivial|((try dsimp only);simp [go_sem, *]))
      clear hK K hQ3
      try simp only [pS]
      refine tq 5 17 (.tuple #[fracV by_,.int .i64 0]) ?_
      refine tq 6 23 (fracV by_) ?_
      refine tq 7 24 (.int .i64 0) ?_
      refine rd 8 (fun K hK=>?_)
      go_simp
      (try dsimp only)
      refine hK.out _ _ ?_ (fun hQ5=>?_)
      ·(first|exact trivial|((try dsimp only);simp [go_sem, *]))
      clear hK K hQ4
      try simp only [pS]
      refine rd 9 (fun K hK=>?_)
      go_simp
      (try dsimp only)
      refine hK.out _ _ ?_ (fun hQ6=>?_)
      ·(first|exact trivial|((try dsimp only);simp [go_sem, *]))
      clear hK K hQ5
      try simp only [pS]
      refine rd 10 (fun K hK=>?_)
      go_simp
      refine kO hK fun hQ7=>?_
      clear hK K hQ6
      refine wpAnyH_done (by kernel_rfl) ?_ _
      go_wp2_with fail
      go_meet
      refine⟨w5.heap.size,rfl,by(with_reducible (repeat' (first|(refine VB.new' ?_;exact(by first|omega|(simp;done)|(simp;omega)))|apply VB.put2|apply VB.put3|apply VB.put5|refine VB.drew ?_|refine VB.far ?_ ?_ _|refine VB.alloc ?_ _|refine VB.gr ?_ HG5.out ?_|refine VB.gr ?_ HG4.out ?_|refine VB.gr ?_ HG3.out ?_|refine VB.gr ?_ HG2.out ?_|omega|(simp;done)|(simp;omega)))),by omega,by(with_reducible (repeat' (first|exact Gr.refl _ _|refine Gr.drew ?_|refine Gr.setCell ?_ ?_ _|refine Gr.alloc ?_ ?_ _|refine Gr.trans ?_ (Gr.mono HG5.out ?_)|refine Gr.trans ?_ (Gr.mono HG4.out ?_)|refine Gr.trans ?_ (Gr.mono HG3.out ?_)|refine Gr.trans ?_ (Gr.mono HG2.out ?_)|omega|(simp;done)|(simp;omega))))⟩
     ·go_simp
      (try dsimp only)
      refine hK.out _ _ ?_ (fun hQ4=>?_)
      ·(first|exact trivial|((try dsimp only);simp [go_sem, *]))
      clear hK K hQ3
      try simp only [pS]
      refine rd 4 (fun K hK=>?_)
      go_simp
      (refine rtt (HD.out _) fun w5 hsz5 hc5 hf5 HG5=>?_;(try simp at hsz5);have hy5_0:b6<w5.heap.size:=(by omega);have hy5_1:w4.heap.size<w5.heap.size:=(by omega))
      (try dsimp only)
      refine hK.out _ _ ?_ (fun hQ5=>?_)
      ·(first|exact trivial|((try dsimp only);simp [go_sem, *]))
      clear hK K hQ4
      try simp only [pS]
      refine tq 5 17 (.tuple #[fracV by_,.int .i64 0]) ?_
      refine tq 6 23 (fracV by_) ?_
      refine tq 7 24 (.int .i64 0) ?_
      refine rd 9 (fun K hK=>?_)
      go_simp
      refine kO hK fun hQ6=>?_
      clear hK K hQ5
      refine rd 10 (fun K hK=>?_)
      go_simp
      refine kO hK fun hQ7=>?_
      clear hK K hQ6
      refine wpAnyH_done (by kernel_rfl) ?_ _
      go_wp2_with fail
      go_meet
      refine⟨w4.heap.size,rfl,by(with_reducible (repeat' (first|(refine VB.new' ?_;exact(by first|omega|(simp;done)|(simp;omega)))|apply VB.put2|apply VB.put3|apply VB.put5|refine VB.drew ?_|refine VB.far ?_ ?_ _|refine VB.alloc ?_ _|refine VB.gr ?_ HG5.out ?_|refine VB.gr ?_ HG4.out ?_|refine VB.gr ?_ HG3.out ?_|refine VB.gr ?_ HG2.out ?_|omega|(simp;done)|(simp;omega)))),by omega,by(with_reducible (repeat' (first|exact Gr.refl _ _|refine Gr.drew ?_|refine Gr.setCell ?_ ?_ _|refine Gr.alloc ?_ ?_ _|refine Gr.trans ?_ (Gr.mono HG5.out ?_)|refine Gr.trans ?_ (Gr.mono HG4.out ?_)|refine Gr.trans ?_ (Gr.mono HG3.out ?_)|refine Gr.trans ?_ (Gr.mono HG2.out ?_)|omega|(simp;done)|(simp;omega))))⟩
    ·go_simp
     (try dsimp only)
     refine hK.out _ _ ?_ (fun hQ3=>?_)
     ·(first|exact trivial|((try dsimp only);simp [go_sem, *]))
     clear hK K hQ2
     try simp only [pS]
     refine rd 3 (fun K hK=>?_)
     go_simp
     (refine rtt (HM.out _) fun w4 hsz4 hc4 hf4 HG4=>?_;(try simp at hsz4);have hy4_0:b6<w4.heap.size:=(by omega);have hy4_1:w3.heap.size<w4.heap.size:=(by omega))
     (try dsimp only)
     refine hK.out _ _ ?_ (fun hQ4=>?_)
     ·(first|exact trivial|((try dsimp only);simp [go_sem, *]))
     clear hK K hQ3
     try simp only [pS]
     refine rd 4 (fun K hK=>?_)
     go_simp
     (refine rtt (HD.out _) fun w5 hsz5 hc5 hf5 HG5=>?_;(try simp at hsz5);have hy5_0:b6<w5.heap.size:=(by omega);have hy5_1:w3.heap.size<w5.heap.size:=(by omega))
     (try dsimp only)
     refine hK.out _ _ ?_ (fun hQ5=>?_)
     ·(first|exact trivial|((try dsimp only);simp [go_sem, *]))
     clear hK K hQ4
     try simp only [pS]
     refine tq 5 17 (.tuple #[fracV by_,.int .i64 0]) ?_
     refine tq 6 23 (fracV by_) ?_
     refine tq 7 24 (.int .i64 0) ?_
     refine rd 9 (fun K hK=>?_)
     go_simp
     refine kO hK fun hQ6=>?_
     clear hK K hQ5
     refine rd 10 (fun K hK=>?_)
     go_simp
     refine kO hK fun hQ7=>?_
     clear hK K hQ6
     refine wpAnyH_done (by kernel_rfl) ?_ _
     go_wp2_with fail
     go_meet
     refine⟨w3.heap.size,rfl,by(with_reducible (repeat' (first|(refine VB.new' ?_;exact(by first|omega|(simp;done)|(simp;omega)))|apply VB.put2|apply VB.put3|apply VB.put5|refine VB.drew ?_|refine VB.far ?_ ?_ _|refine VB.alloc ?_ _|refine VB.gr ?_ HG5.out ?_|refine VB.gr ?_ HG4.out ?_|refine VB.gr ?_ HG3.out ?_|refine VB.gr ?_ HG2.out ?_|omega|(simp;done)|(simp;omega)))),by omega,by(with_reducible (repeat' (first|exact Gr.refl _ _|refine Gr.drew ?_|refine Gr.setCell ?_ ?_ _|refine Gr.alloc ?_ ?_ _|refine Gr.trans ?_ (Gr.mono HG5.out ?_)|refine Gr.trans ?_ (Gr.mono HG4.out ?_)|refine Gr.trans ?_ (Gr.mono HG3.out ?_)|refine Gr.trans ?_ (Gr.mono HG2.out ?_)|omega|(simp;done)|(simp;omega))))⟩
   ·go_simp
    refine kO hK fun hQ2=>?_
    clear hK K hQ1
    refine rd 1 (fun K hK=>?_)
    go_simp
    (refine rtt (H2.out _) fun w3 hsz3 hc3 hf3 HG3=>?_;(try simp at hsz3);have hy3_0:b6<w3.heap.size:=(by omega);have hy3_1:w2.heap.size<w3.heap.size:=(by omega))
    (try dsimp only)
    refine hK.out _ _ ?_ (fun hQ3=>?_)
    ·(first|exact trivial|((try dsimp only);simp [go_sem, *]))
    clear hK K hQ2
    try simp only [pS]
    refine rd 3 (fun K hK=>?_)
    go_simp
    (refine rtt (HM.out _) fun w4 hsz4 hc4 hf4 HG4=>?_;(try simp at hsz4);have hy4_0:b6<w4.heap.size:=(by omega);have hy4_1:w2.heap.size<w4.heap.size:=(by omega))
    (try dsimp only)
    refine hK.out _ _ ?_ (fun hQ4=>?_)
    ·(first|exact trivial|((try dsimp only);simp [go_sem, *]))
    clear hK K hQ3
    try simp only [pS]
    refine rd 4 (fun K hK=>?_)
    go_simp
    (refine rtt (HD.out _) fun w5 hsz5 hc5 hf5 HG5=>?_;(try simp at hsz5);have hy5_0:b6<w5.heap.size:=(by omega);have hy5_1:w2.heap.size<w5.heap.size:=(by omega))
    (try dsimp only)
    refine hK.out _ _ ?_ (fun hQ5=>?_)
    ·(first|exact trivial|((try dsimp only);simp [go_sem, *]))
    clear hK K hQ4
    try simp only [pS]
    refine tq 5 17 (.tuple #[fracV by_,.int .i64 0]) ?_
    refine tq 6 23 (fracV by_) ?_
    refine tq 7 24 (.int .i64 0) ?_
    refine rd 9 (fun K hK=>?_)
    go_simp
    (try dsimp only)
    refine hK.out _ _ ?_ (fun hQ6=>?_)
    ·(first|exact trivial|((try dsimp only);simp [go_sem, *]))
    clear hK K hQ5
    try simp only [pS]
    refine rd 10 (fun K hK=>?_)
    go_simp
    refine kO hK fun hQ7=>?_
    clear hK K hQ6
    refine wpAnyH_done (by kernel_rfl) ?_ _
    go_wp2_with fail
    go_meet
    refine⟨w2.heap.size,rfl,by(with_reducible (repeat' (first|(refine VB.new' ?_;exact(by first|omega|(simp;done)|(simp;omega)))|apply VB.put2|apply VB.put3|apply VB.put5|refine VB.drew ?_|refine VB.far ?_ ?_ _|refine VB.alloc ?_ _|refine VB.gr ?_ HG5.out ?_|refine VB.gr ?_ HG4.out ?_|refine VB.gr ?_ HG3.out ?_|refine VB.gr ?_ HG2.out ?_|omega|(simp;done)|(simp;omega)))),by omega,by(with_reducible (repeat' (first|exact Gr.refl _ _|refine Gr.drew ?_|refine Gr.setCell ?_ ?_ _|refine Gr.alloc ?_ ?_ _|refine Gr.trans ?_ (Gr.mono HG5.out ?_)|refine Gr.trans ?_ (Gr.mono HG4.out ?_)|refine Gr.trans ?_ (Gr.mono HG3.out ?_)|refine Gr.trans ?_ (Gr.mono HG2.out ?_)|omega|(simp;done)|(simp;omega))))⟩
  ·go_simp
   refine kO hK fun hQ1=>?_
   clear hK K hHeld
   refine rd 0 (fun K hK=>?_)
   go_simp
   (refine rtt (H1.out _) fun w2 hsz2 hc2 hf2 HG2=>?_;(try simp at hsz2);have hy2_0:b6<w2.heap.size:=(by omega);have hy2_1:wy.heap.size<w2.heap.size:=(by omega))
   refine kO hK fun hQ2=>?_
   clear hK K hQ1
   refine rd 1 (fun K hK=>?_)
   go_simp
   (refine rtt (H2.out _) fun w3 hsz3 hc3 hf3 HG3=>?_;(try simp at hsz3);have hy3_0:b6<w3.heap.size:=(by omega);have hy3_1:wy.heap.size<w3.heap.size:=(by omega))
   (try dsimp only)
   refine hK.out _ _ ?_ (fun hQ3=>?_)
   ·(first|exact trivial|((try dsimp only);simp [go_sem, *]))
   clear hK K hQ2
   try simp only [pS]
   refine rd 3 (fun K hK=>?_)
   go_simp
   (refine rtt (HM.out _) fun w4 hsz4 hc4 hf4 HG4=>?_;(try simp at hsz4);have hy4_0:b6<w4.heap.size:=(by omega);have hy4_1:wy.heap.size<w4.heap.size:=(by omega))
   (try dsimp only)
   refine hK.out _ _ ?_ (fun hQ4=>?_)
   ·(first|exact trivial|((try dsimp only);simp [go_sem, *]))
   clear hK K hQ3
   try simp only [pS]
   refine rd 4 (fun K hK=>?_)
   go_simp
   (refine rtt (HD.out _) fun w5 hsz5 hc5 hf5 HG5=>?_;(try simp at hsz5);have hy5_0:b6<w5.heap.size:=(by omega);have hy5_1:wy.heap.size<w5.heap.size:=(by omega))
   (try dsimp only)
   refine hK.out _ _ ?_ (fun hQ5=>?_)
   ·(first|exact trivial|((try dsimp only);simp [go_sem, *]))
   clear hK K hQ4
   try simp only [pS]
   refine tq 5 17 (.tuple #[fracV by_,.int .i64 0]) ?_
   refine tq 6 23 (fracV by_) ?_
   refine tq 7 24 (.int .i64 0) ?_
   refine rd 9 (fun K hK=>?_)
   go_simp
   (try dsimp only)
   refine hK.out _ _ ?_ (fun hQ6=>?_)
   ·(first|exact trivial|((try dsimp only);simp [go_sem, *]))
   clear hK K hQ5
   try simp only [pS]
   refine rd 10 (fun K hK=>?_)
   go_simp
   refine kO hK fun hQ7=>?_
   clear hK K hQ6
   refine wpAnyH_done (by kernel_rfl) ?_ _
   go_wp2_with fail
   go_meet
   refine⟨wy.heap.size,rfl,by(with_reducible (repeat' (first|(refine VB.new' ?_;exact(by first|omega|(simp;done)|(simp;omega)))|apply VB.put2|apply VB.put3|apply VB.put5|refine VB.drew ?_|refine VB.far ?_ ?_ _|refine VB.alloc ?_ _|refine VB.gr ?_ HG5.out ?_|refine VB.gr ?_ HG4.out ?_|refine VB.gr ?_ HG3.out ?_|refine VB.gr ?_ HG2.out ?_|omega|(simp;done)|(simp;omega)))),by omega,by(with_reducible (repeat' (first|exact Gr.refl _ _|refine Gr.drew ?_|refine Gr.setCell ?_ ?_ _|refine Gr.alloc ?_ ?_ _|refine Gr.trans ?_ (Gr.mono HG5.out ?_)|refine Gr.trans ?_ (Gr.mono HG4.out ?_)|refine Gr.trans ?_ (Gr.mono HG3.out ?_)|refine Gr.trans ?_ (Gr.mono HG2.out ?_)|omega|(simp;done)|(simp;omega))))⟩
 case rest=>
  obtain ⟨wx,hw9⟩:∃q,q=wc:=⟨_,rfl⟩
  subst hw9
  obtain ⟨g7,rfl,hV7,hg7,hgx⟩:=hcut
  have HV4x:=Lh (HV4.out.gr hgx h4y)
  have HV5x:=Lh (HV5y.out.gr hgx hl5)
  have HV7:=Lh hV7
  have HGX:=Lh (HGW.out.trans (hgx.mono (by omega)))
  have hl7:=hV7.lt
  have hl4:=HV4x.out.lt
  have hn47:w.heap.size+1<g7:=by omega
  clear hV7 hgx HV4 HV5y HV6 HGW H1 H2 HM HD q0 q1 q2 q3 q4
  iterate 4 (first|go_values|go_skip|go_guarded|go_step|go_upon|go_simp)
  refine wpList_load_mid rfl 197 _ rfl b5 0 rfl L3 _ HV5x.out.range Tryz.underlying197 rfl HLI.out ?_
  simp only [pS]
  go_wp2
  go_loopw [26] (fun s wr=> ∃(k:Nat) (zl:List Value),s= .int .i64 k∧k≤3∧zl.length=6∧Hid (VB wr (w.heap.size+1) zl)∧Hid (∀n p,n<k→ [a,b,c][n]? =some p→∃v u,zl[2*n]? =some v∧zl[2*n+1]? =some u∧PL wr (w.heap.size+1+1) v (BX p)∧PL wr (w.heap.size+1+1) u (BY p))∧Hid (VB wr g7 [vA by_,vB by_,vC by_,vD by_,vE by_])∧Hid (Gr w.heap.size w wr)) (fun s _=>3 - (intOf s).toNat)
  case atStart=>exact⟨0,_,rfl,by omega,by rfl,HV4x,Lh (fun n p h=>by omega),HV7,HGX⟩
  case round=>
   clear HV4x HV5x HV7 HGX
   obtain ⟨k,zl,rfl,hk,hz,HZ,HP,HV,HQ⟩:=hrel
   have hszr:=HQ.out.size
   have hl4:=HZ.out.lt
   have hl7:=HV.out.lt
   by_cases hlt:k<3
   ·obtain ⟨p,hp⟩:∃p,[a,b,c][k]? =some p:=⟨_,List.getElem?_eq_getElem (by simpa using hlt)⟩
    have hIX:=fun W=>run_idxL HL.out hp W
    have hpm:p∈ [a,b,c]:=List.mem_of_getElem? hp
    have HHP:=Lh hp
    have hki:(k:Int)<3:=by omega
    clear hp
    go_upto_region 6 with fail
    have HPB:=Lh (show VB (wr.alloc (.cells #[vA p.x,vB p.x,vC p.x,vD p.x,vE p.x,vA p.y,vB p.y,vC p.y,vD p.y,vE p.y] 64)) wr.heap.size [vA p.x,vB p.x,vC p.x,vD p.x,vE p.x,vA p.y,vB p.y,vC p.y,vD p.y,vE p.y]from by exact vbb)
    have HZ1:=Lh (show VB (wr.alloc (.cells #[vA p.x,vB p.x,vC p.x,vD p.x,vE p.x,vA p.y,vB p.y,vC p.y,vD p.y,vE p.y] 64)) (w.heap.size+1) zl from HZ.out.alloc _)
    have HV1:=Lh (show VB (wr.alloc (.cells #[vA p.x,vB p.x,vC p.x,vD p.x,vE p.x,vA p.y,vB p.y,vC p.y,vD p.y,vE p.y] 64)) g7 [vA by_,vB by_,vC by_,vD by_,vE by_]from HV.out.alloc _)
    have HQ1:=Lh (show Gr wr.heap.size wr (wr.alloc (.cells #[vA p.x,vB p.x,vC p.x,vD p.x,vE p.x,vA p.y,vB p.y,vC p.y,vD p.y,vE p.y] 64))from by exact gzz)
    have hzq:(wr.alloc (.cells #[vA p.x,vB p.x,vC p.x,vD p.x,vE p.x,vA p.y,vB p.y,vC p.y,vD p.y,vE p.y] 64)).heap.size=wr.heap.size+1:=by simp
    generalize (wr.alloc (.cells #[vA p.x,vB p.x,vC p.x,vD p.x,vE p.x,vA p.y,vB p.y,vC p.y,vD p.y,vE p.y] 64))=wt at *
    obtain ⟨pb,hpb⟩:∃q,wr.heap.size=q:=⟨_,rfl⟩
    have hpt:pb<wt.heap.size:=by omega
    have hp7:g7<pb:=by omega
    have hp4:w.heap.size+1<pb:=by omega
    rw [hpb]at HPB ⊢
    have h7t:g7<wt.heap.size:=by omega
    have h4t:w.heap.size+1<wt.heap.size:=by omega
    clear hzq hIX
    obtain ⟨a0,a1,a2,a3,a4,a5,a6,a7,a8,a9⟩:=HPB.out.ten
    obtain ⟨v0,v1,v2,v3,v4,-⟩:=HV1.out.five
    obtain ⟨y0,hy0⟩:∃q,zl[2*k]? =some q:=⟨_,List.getElem?_eq_getElem (by omega)⟩
    obtain ⟨y1,hy1⟩:∃q,zl[2*k+1]? =some q:=⟨_,List.getElem?_eq_getElem (by omega)⟩
    obtain ⟨o0,ho0⟩:∃q,q=k*2:=⟨_,rfl⟩
    obtain ⟨o1,ho1⟩:∃q,q=k*2+1:=⟨_,rfl⟩
    refine wp_region_held_drew (S:=(fun w'=>w'.cell? ⟨pb,0,none⟩=some (vA p.x)∧w'.cell? ⟨pb,1,none⟩=some (vB p.x)∧w'.cell? ⟨pb,2,none⟩=some (vC p.x)∧w'.cell? ⟨pb,3,none⟩=some (vD p.x)∧w'.cell? ⟨pb,4,none⟩=some (vE p.x)∧w'.cell? ⟨pb,5,none⟩=some (vA p.y)∧w'.cell? ⟨pb,6,none⟩=some (vB p.y)∧w'.cell? ⟨pb,7,none⟩=some (vC p.y)∧w'.cell? ⟨pb,8,none⟩=some (vD p.y)∧w'.cell? ⟨pb,9,none⟩=some (vE p.y)∧w'.cell? ⟨g7,0,none⟩=some (vA by_)∧w'.cell? ⟨g7,1,none⟩=some (vB by_)∧w'.cell? ⟨g7,2,none⟩=some (vC by_)∧w'.cell? ⟨g7,3,none⟩=some (vD by_)∧w'.cell? ⟨g7,4,none⟩=some (vE by_))) (by kernel_rfl) ?_ (fun hHeld=>?_)
    ·simp [go_sem, *]
    refine tq 0 30 (.int .i64 (k:Int)) ?_
    refine tq 2 32 (.pointer (some ⟨pb,0,none⟩)) ?_
    refine tq 3 33 (fracV p.x) ?_
    refine tq 6 36 (fracV by_) ?_
    refine tq 8 38 (.pointer (some ⟨w.heap.size+1,k*2,none⟩)) ?_
    refine rd 1 (fun K hK=>?_)
    go_simp
    (refine rtp (HX.out _) fun w21 v21 HS21 hsz21 hc21 hf21 HG21=>?_;(try simp at hsz21);have hy21_0:pb<w21.heap.size:=(by omega);have hy21_1:g7<w21.heap.size:=(by omega);have hy21_2:w.heap.size+1<w21.heap.size:=(by omega))
    refine kO hK fun hQ1=>?_
    clear hK K hHeld
    refine rd 4 (fun K hK=>?_)
    go_simp
    (refine rtp (HKX.out p hpm _) fun w22 v22 HS22 hsz22 hc22 hf22 HG22=>?_;(try simp at hsz22);have hy22_0:pb<w22.heap.size:=(by omega);have hy22_1:g7<w22.heap.size:=(by omega);have hy22_2:w.heap.size+1<w22.heap.size:=(by omega))
    refine kO hK fun hQ2=>?_
    clear hK K hQ1
    refine rd 5 (fun K hK=>?_)
    go_simp
    (refine rtp (HSX.out p hpm _ _ _ ((HS21.out.mono (Nat.zero_le _)).gr HG22.out) (HS22.out.mono (Nat.zero_le _))) fun w23 v23 HS23 hsz23 hc23 hf23 HG23=>?_;(try simp at hsz23);have hy23_0:pb<w23.heap.size:=(by omega);have hy23_1:g7<w23.heap.size:=(by omega);have hy23_2:w.heap.size+1<w23.heap.size:=(by omega))
    (try dsimp only)
    refine hK.out _ _ ?_ (fun hQ3=>?_)
    ·(first|exact trivial|((try dsimp only);simp [go_sem, *]))
    clear hK K hQ2
    try simp only [pS]
    refine rd 7 (fun K hK=>?_)
    go_simp
    (refine rtp (HTX.out p hpm _ _ (HS23.out.mono (Nat.zero_le _))) fun w24 v24 HS24 hsz24 hc24 hf24 HG24=>?_;(try simp at hsz24);have hy24_0:pb<w24.heap.size:=(by omega);have hy24_1:g7<w24.heap.size:=(by omega);have hy24_2:w.heap.size+1<w24.heap.size:=(by omega))
    (try dsimp only)
    refine hK.out _ _ ?_ (fun hQ4=>?_)
    ·(first|exact trivial|((try dsimp only);simp [go_sem, *]))
    clear hK K hQ3
    try simp only [pS]
    obtain ⟨a24,c24,rfl⟩:=HS24.out.at
    refine tq 9 39 (.pointer (some ⟨w.heap.size+1,k*2,none⟩)) ?_
    have hne1:pb≠w.heap.size+1:=by omega
    have hne2:w.heap.size+1≠pb:=by omega
    have hne3:g7≠w.heap.size+1:=by omega
    have hne4:w.heap.size+1≠g7:=by omega
    have HZ21:=Lh (show VB w24 (w.heap.size+1) (zl)from by exact vbc HG24 (vbc HG23 (vbc HG22 (vbc HG21 HZ1.out))))
    have HGA21:=Lh (show Gr wt.heap.size wt w24 from by exact gcc HG24 (gcc HG23 (gcc HG22 (gcc HG21 gzz))))
    have HPB21:=Lh (show VB w24 pb [vA p.x,vB p.x,vC p.x,vD p.x,vE p.x,vA p.y,vB p.y,vC p.y,vD p.y,vE p.y]from by exact vbc HG24 (vbc HG23 (vbc HG22 (vbc HG21 HPB.out))))
    have HVB21:=Lh (show VB w24 g7 [vA by_,vB by_,vC by_,vD by_,vE by_]from by exact vbc HG24 (vbc HG23 (vbc HG22 (vbc HG21 HV1.out))))
    have hcz21:=HZ1.out.c (k*2) _ (by rw [Nat.mul_comm];exact hy0)
    have hfz21:=HZ1.out.f (k*2) (by first|omega|(simp;done)|(simp;omega))
    refine rd 10 (fun K hK=>?_)
    go_simp
    (try dsimp only)
    refine hK.out _ _ ?_ (fun hQ5=>?_)
    ·(first|exact trivial|((try dsimp only);simp [go_sem, *]))
    clear hK K hQ4
    try simp only [pS]
    refine wpAnyH_done (by kernel_rfl) ?_ _
    have hs25:(w24.setCell ⟨w.heap.size+1,k*2,none⟩ (.slice a24 (BX p).length c24)).heap.size=w24.heap.size:=by simp
    have HZ25:=Lh (show VB (w24.setCell ⟨w.heap.size+1,k*2,none⟩ (.slice a24 (BX p).length c24)) (w.heap.size+1) _ from HZ21.out.one (k*2) (.slice a24 (BX p).length c24) (by omega))
    have HPB25:=Lh (show VB (w24.setCell ⟨w.heap.size+1,k*2,none⟩ (.slice a24 (BX p).length c24)) pb [vA p.x,vB p.x,vC p.x,vD p.x,vE p.x,vA p.y,vB p.y,vC p.y,vD p.y,vE p.y]from HPB21.out.far hne2 _)
    have HVB25:=Lh (show VB (w24.setCell ⟨w.heap.size+1,k*2,none⟩ (.slice a24 (BX p).length c24)) g7 [vA by_,vB by_,vC by_,vD by_,vE by_]from HVB21.out.far hne4 _)
    have HS25:=Lh (show PL (w24.setCell ⟨w.heap.size+1,k*2,none⟩ (.slice a24 (BX p).length c24)) (w.heap.size+1+1) (.slice a24 (BX p).length c24) (BX p)from SL.far (HS24.out.mono (by omega)) (by simp) _)
    have HG25:=Lh (show Gr w.heap.size w (w24.setCell ⟨w.heap.size+1,k*2,none⟩ (.slice a24 (BX p).length c24))from Gr.setCell (HQ.out.trans ((HQ1.out.trans (HGA21.out.mono (by omega))).mono (by omega))) (by first|omega|(simp;done)|(simp;omega)) _)
    have HP25:=Lh (show ∀n p',n<k→ [a,b,c][n]? =some p'→∃v u,zl[2*n]? =some v∧zl[2*n+1]? =some u∧PL (w24.setCell ⟨w.heap.size+1,k*2,none⟩ (.slice a24 (BX p).length c24)) (w.heap.size+1+1) v (BX p')∧PL (w24.setCell ⟨w.heap.size+1,k*2,none⟩ (.slice a24 (BX p).length c24)) (w.heap.size+1+1) u (BY p')from fun n p' h1 h2=>by
     obtain ⟨v,u,g1,g2,g3,g4⟩:=HP.out n p' h1 h2
     have hgw:=HQ1.out.trans (HGA21.out.mono (show wr.heap.size≤wt.heap.size by omega))
     exact⟨v,u,g1,g2,(SL.gr g3 hgw).far (by simp) _,(SL.gr g4 hgw).far (by simp) _⟩)
    generalize (w24.setCell ⟨w.heap.size+1,k*2,none⟩ (.slice a24 (BX p).length c24))=w25 at *
    have hy1':(zl.set (k*2) (.slice a24 (BX p).length c24))[k*2+1]? =some y1:=by rw [List.getElem?_set_ne (by omega),Nat.mul_comm];exact hy1
    have hp25:pb<w25.heap.size:=by omega
    have h725:g7<w25.heap.size:=by omega
    have h425:w.heap.size+1<w25.heap.size:=by omega
    have hp01:pb≤w25.heap.size:=by omega
    clear HZ21 HPB21 HVB21 hcz21 hfz21 HGA21 hQ5 a0 a1 a2 a3 a4 a5 a6 a7 a8 a9 v0 v1 v2 v3 v4 HG21 hc21 hf21 HS21 hsz21 HG22 hc22 hf22 HS22 hsz22 HG23 hc23 hf23 HS23 hsz23 HG24 hc24 hf24 HS24 hsz24 HZ1 HV1 HPB HQ1 HP HV HZ HQ
    go_upto_region 7 with fail
    obtain ⟨a0,a1,a2,a3,a4,a5,a6,a7,a8,a9⟩:=HPB25.out.ten
    obtain ⟨v0,v1,v2,v3,v4,-⟩:=HVB25.out.five
    refine wp_region_held_drew (S:=(fun w'=>w'.cell? ⟨pb,0,none⟩=some (vA p.x)∧w'.cell? ⟨pb,1,none⟩=some (vB p.x)∧w'.cell? ⟨pb,2,none⟩=some (vC p.x)∧w'.cell? ⟨pb,3,none⟩=some (vD p.x)∧w'.cell? ⟨pb,4,none⟩=some (vE p.x)∧w'.cell? ⟨pb,5,none⟩=some (vA p.y)∧w'.cell? ⟨pb,6,none⟩=some (vB p.y)∧w'.cell? ⟨pb,7,none⟩=some (vC p.y)∧w'.cell? ⟨pb,8,none⟩=some (vD p.y)∧w'.cell? ⟨pb,9,none⟩=some (vE p.y)∧w'.cell? ⟨g7,0,none⟩=some (vA by_)∧w'.cell? ⟨g7,1,none⟩=some (vB by_)∧w'.cell? ⟨g7,2,none⟩=some (vC by_)∧w'.cell? ⟨g7,3,none⟩=some (vD by_)∧w'.cell? ⟨g7,4,none⟩=some (vE by_))) (by kernel_rfl) ?_ (fun hHeld=>?_)
    ·simp [go_sem, *]
    refine tq 0 40 (.int .i64 (k:Int)) ?_
    refine tq 2 42 (.pointer (some ⟨pb,5,none⟩)) ?_
    refine tq 3 43 (fracV p.y) ?_
    refine tq 6 46 (fracV by_) ?_
    refine tq 8 48 (.pointer (some ⟨w.heap.size+1,k*2,none⟩)) ?_
    refine rd 1 (fun K hK=>?_)
    go_simp
    (refine rtp (HY.out _) fun w31 v31 HS31 hsz31 hc31 hf31 HG31=>?_;(try simp at hsz31);have hy31_0:pb<w31.heap.size:=(by omega);have hy31_1:g7<w31.heap.size:=(by omega);have hy31_2:w.heap.size+1<w31.heap.size:=(by omega))
    refine kO hK fun hQ1=>?_
    clear hK K hHeld
    refine rd 4 (fun K hK=>?_)
    go_simp
    (refine rtp (HKY.out p hpm _) fun w32 v32 HS32 hsz32 hc32 hf32 HG32=>?_;(try simp at hsz32);have hy32_0:pb<w32.heap.size:=(by omega);have hy32_1:g7<w32.heap.size:=(by omega);have hy32_2:w.heap.size+1<w32.heap.size:=(by omega))
    refine kO hK fun hQ2=>?_
    clear hK K hQ1
    refine rd 5 (fun K hK=>?_)
    go_simp
    (refine rtp (HSY.out p hpm _ _ _ ((HS31.out.mono (Nat.zero_le _)).gr HG32.out) (HS32.out.mono (Nat.zero_le _))) fun w33 v33 HS33 hsz33 hc33 hf33 HG33=>?_;(try simp at hsz33);have hy33_0:pb<w33.heap.size:=(by omega);have hy33_1:g7<w33.heap.size:=(by omega);have hy33_2:w.heap.size+1<w33.heap.size:=(by omega))
    refine kO hK fun hQ3=>?_
    clear hK K hQ2
    refine rd 7 (fun K hK=>?_)
    go_simp
    (refine rtp (HTY.out p hpm _ _ (HS33.out.mono (Nat.zero_le _))) fun w34 v34 HS34 hsz34 hc34 hf34 HG34=>?_;(try simp at hsz34);have hy34_0:pb<w34.heap.size:=(by omega);have hy34_1:g7<w34.heap.size:=(by omega);have hy34_2:w.heap.size+1<w34.heap.size:=(by omega))
    refine kO hK fun hQ4=>?_
    clear hK K hQ3
    obtain ⟨a34,c34,rfl⟩:=HS34.out.at
    refine tq 9 49 (.pointer (some ⟨w.heap.size+1,k*2+1,none⟩)) ?_
    have HZ31:=Lh (show VB w34 (w.heap.size+1) (zl.set (k*2) (.slice a24 (BX p).length c24))from by exact vbc HG34 (vbc HG33 (vbc HG32 (vbc HG31 HZ25.out))))
    have HGA31:=Lh (show Gr w25.heap.size w25 w34 from by exact gcc HG34 (gcc HG33 (gcc HG32 (gcc HG31 gzz))))
    have HPB31:=Lh (show VB w34 pb [vA p.x,vB p.x,vC p.x,vD p.x,vE p.x,vA p.y,vB p.y,vC p.y,vD p.y,vE p.y]from by exact vbc HG34 (vbc HG33 (vbc HG32 (vbc HG31 HPB25.out))))
    have HVB31:=Lh (show VB w34 g7 [vA by_,vB by_,vC by_,vD by_,vE by_]from by exact vbc HG34 (vbc HG33 (vbc HG32 (vbc HG31 HVB25.out))))
    have hcz31:=HZ25.out.c (k*2+1) _ hy1'
    have hfz31:=HZ25.out.f (k*2+1) (by first|omega|(simp;done)|(simp;omega))
    refine rd 10 (fun K hK=>?_)
    go_simp
    refine kO hK fun hQ5=>?_
    clear hK K hQ4
    refine wpAnyH_done (by kernel_rfl) ?_ _
    have hs35:(w34.setCell ⟨w.heap.size+1,k*2+1,none⟩ (.slice a34 (BY p).length c34)).heap.size=w34.heap.size:=by simp
    have HZ35:=Lh (show VB (w34.setCell ⟨w.heap.size+1,k*2+1,none⟩ (.slice a34 (BY p).length c34)) (w.heap.size+1) _ from HZ31.out.one (k*2+1) (.slice a34 (BY p).length c34) (by simp;omega))
    have HPB35:=Lh (show VB (w34.setCell ⟨w.heap.size+1,k*2+1,none⟩ (.slice a34 (BY p).length c34)) pb [vA p.x,vB p.x,vC p.x,vD p.x,vE p.x,vA p.y,vB p.y,vC p.y,vD p.y,vE p.y]from HPB31.out.far hne2 _)
    have HVB35:=Lh (show VB (w34.setCell ⟨w.heap.size+1,k*2+1,none⟩ (.slice a34 (BY p).length c34)) g7 [vA by_,vB by_,vC by_,vD by_,vE by_]from HVB31.out.far hne4 _)
    have HS35:=Lh (show PL (w34.setCell ⟨w.heap.size+1,k*2+1,none⟩ (.slice a34 (BY p).length c34)) (w.heap.size+1+1) (.slice a34 (BY p).length c34) (BY p)from SL.far (HS34.out.mono (by omega)) (by simp) _)
    have HG35:=Lh (show Gr w.heap.size w (w34.setCell ⟨w.heap.size+1,k*2+1,none⟩ (.slice a34 (BY p).length c34))from Gr.setCell (HG25.out.trans (HGA31.out.mono (by omega))) (by first|omega|(simp;done)|(simp;omega)) _)
    have HP35:=Lh (show ∀n p',n<k+1→ [a,b,c][n]? =some p'→∃v u,((zl.set (k*2) (.slice a24 (BX p).length c24)).set (k*2+1) (.slice a34 (BY p).length c34))[2*n]? =some v∧((zl.set (k*2) (.slice a24 (BX p).length c24)).set (k*2+1) (.slice a34 (BY p).length c34))[2*n+1]? =some u∧PL (w34.setCell ⟨w.heap.size+1,k*2+1,none⟩ (.slice a34 (BY p).length c34)) (w.heap.size+1+1) v (BX p')∧PL (w34.setCell ⟨w.heap.size+1,k*2+1,none⟩ (.slice a34 (BY p).length c34)) (w.heap.size+1+1) u (BY p')from fun n p' h1 h2=>by
     by_cases e:n=k
     ·subst e
      obtain rfl:=Option.some.inj (HHP.out.symm.trans h2)
      refine⟨.slice a24 (BX _).length c24,.slice a34 (BY _).length c34,?_,?_,SL.far ((HS25.out.gr HGA31.out)) (by simp) _,HS35.out⟩
      ·rw [Nat.mul_comm,List.getElem?_set_ne (by omega)];exact List.getElem?_set_self (by omega)
      ·rw [Nat.mul_comm];exact List.getElem?_set_self (by simp;omega)
     ·obtain ⟨v,u,g1,g2,g3,g4⟩:=HP25.out n p' (by omega) h2
      exact⟨v,u,by rw [List.getElem?_set_ne (by omega),List.getElem?_set_ne (by omega)];exact g1,by rw [List.getElem?_set_ne (by omega),List.getElem?_set_ne (by omega)];exact g2,(SL.gr g3 HGA31.out).far (by simp) _,(SL.gr g4 HGA31.out).far (by simp) _⟩)
    generalize (w34.setCell ⟨w.heap.size+1,k*2+1,none⟩ (.slice a34 (BY p).length c34))=w35 at *
    clear a0 a1 a2 a3 a4 a5 a6 a7 a8 a9 v0 v1 v2 v3 v4 hQ5 hcz31 hfz31 HG31 hc31 hf31 HS31 HG32 hc32 hf32 HS32 HG33 hc33 hf33 HS33 HG34 hc34 hf34 HS34
    have hk1:IntKind.i64.wrap ((k:Int)+1)=(k:Int)+1:=wrap64_id (by omega) (by omega)
    go_wp2
    go_roundw
    case rel=>exact⟨k+1,_,by go_num,by omega,by simp [hz],HZ35,HP35,HVB35,HG35⟩
    case measure=>simp [intOf];omega
   ·have hk3:k=3:=by omega
    subst hk3
    obtain ⟨x0,y0,p0,p1,p2,p3⟩:=HP.out 0 a (by omega) rfl
    obtain ⟨x1,y1,p4,p5,p6,p7⟩:=HP.out 1 b (by omega) rfl
    obtain ⟨x2,y2,p8,p9,p10,p11⟩:=HP.out 2 c (by omega) rfl
    have hzl:zl= [x0,y0,x1,y1,x2,y2]:=by
     apply List.ext_getElem?
     intro i
     rcases(show i=0∨i=1∨i=2∨i=3∨i=4∨i=5∨6≤i by omega)with rfl|rfl|rfl|rfl|rfl|rfl|h
     ·exact p0
     ·exact p1
     ·exact p4
     ·exact p5
     ·exact p8
     ·exact p9
     ·rw [List.getElem?_eq_none (by omega),List.getElem?_eq_none (by simpa using h)]
    subst hzl
    obtain ⟨d0,f0,rfl⟩:=p2.at
    obtain ⟨d1,f1,rfl⟩:=p3.at
    obtain ⟨d2,f2,rfl⟩:=p6.at
    obtain ⟨d3,f3,rfl⟩:=p7.at
    obtain ⟨d4,f4,rfl⟩:=p10.at
    obtain ⟨d5,f5,rfl⟩:=p11.at
    have HR:=Lh (And.intro p2 (And.intro p3 (And.intro p6 (And.intro p7 (And.intro p10 p11)))))
    clear p0 p1 p2 p3 p4 p5 p6 p7 p8 p9 p10 p11 HP
    have c0:=HZ.out.c 0 _ rfl
    have c1:=HZ.out.c 1 _ rfl
    have c2:=HZ.out.c 2 _ rfl
    have c3:=HZ.out.c 3 _ rfl
    have c4:=HZ.out.c 4 _ rfl
    have c5:=HZ.out.c 5 _ rfl
    have e0:=HZ.out.f 0 (by simp)
    have e1:=HZ.out.f 1 (by simp)
    have e2:=HZ.out.f 2 (by simp)
    have e3:=HZ.out.f 3 (by simp)
    have e4:=HZ.out.f 4 (by simp)
    have e5:=HZ.out.f 5 (by simp)
    go_wp2
    clear c0 c1 c2 c3 c4 c5 e0 e1 e2 e3 e4 e5
    obtain ⟨r0,r1,r2,r3,r4,r5⟩:=HR.out
    have hfs:=fun (u:Value) (l:List T) (h:PL wr (w.heap.size+1+1) u l)=>(SL.fars (show w.heap.size+1<w.heap.size+1+1 by omega) [.slice d0 (BX a).length f0,.slice d1 (BY a).length f1,.slice d2 (BX b).length f2,.slice d3 (BY b).length f3,.slice d4 (BX c).length f4,.slice d5 (BY c).length f5] 0 h).mono (show w.heap.size≤w.heap.size+1+1 by omega)
    refine ret_row (w:=wr.setCells (w.heap.size+1) 0 [.slice d0 (BX a).length f0,.slice d1 (BY a).length f1,.slice d2 (BX b).length f2,.slice d3 (BY b).length f3,.slice d4 (BX c).length f4,.slice d5 (BY c).length f5]) (g:=w.heap.size+1) Tryz.results76 rfl (VB.set (cs:= [.slice d0 (BX a).length f0,.slice d1 (BY a).length f1,.slice d2 (BX b).length f2,.slice d3 (BY b).length f3,.slice d4 (BX c).length f4,.slice d5 (BY c).length f5]) HZ.out [.slice d0 (BX a).length f0,.slice d1 (BY a).length f1,.slice d2 (BX b).length f2,.slice d3 (BY b).length f3,.slice d4 (BX c).length f4,.slice d5 (BY c).length f5] rfl) Tryz.underlying151 rfl info_B6 rfl ⟨_,_,_,_,_,_,rfl,hfs _ _ r0,hfs _ _ r1,hfs _ _ r2,hfs _ _ r3,hfs _ _ r4,hfs _ _ r5,?_⟩
    exact Gr.sets (show w.heap.size≤w.heap.size+1 by omega) [.slice d0 (BX a).length f0,.slice d1 (BY a).length f1,.slice d2 (BX b).length f2,.slice d3 (BY b).length f3,.slice d4 (BX c).length f4,.slice d5 (BY c).length f5] 0 HQ.out
end Go.Proofs.YtfgmdhjmgdccdaaGreat
