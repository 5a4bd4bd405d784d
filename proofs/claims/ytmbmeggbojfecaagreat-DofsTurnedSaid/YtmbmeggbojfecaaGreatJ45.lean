/-
  Part 45 of the proof: LawS.
-/
import Derived.Test.YtmbmeggbojfecaaGreatJ43
import Derived.Test.YtmbmeggbojfecaaGreatJ44
set_option linter.unusedSimpArgs false
set_option linter.unusedVariables false
namespace Go.Proofs.YtmbmeggbojfecaaGreat
open Go.RowKit Gus Go.Maps
def ordN (two:Bool):Nat:=if two then 2 else 1
set_option maxRecDepth 20000 in
set_option maxHeartbeats 4000000 in
theorem law_Order (two:Bool) (w:World):Calls Tryz.prog 8 #[.bool two] w (Ret w (.int .i64 (ordN two:Int))):=by
 cases two
 all_goals
  go_enter Tryz.func8,Tryz.ntmps8
  go_wp2
  go_ret
  exact⟨rfl,Gr.refl _ _⟩
theorem TabM.at {w:World} {B o:Nat} {m:Msh} {x y z:Value} (h:TabM w B o m x y z):∃(ax ay az:Option Addr) (cx cy cz:Nat),x= .slice ax m.tris.length cx∧y= .slice ay (numM o m) cy∧z= .slice az (esM m.tris).length cz:=by
 obtain ⟨⟨rs,hS,hl,_⟩,hy,hz⟩:=h
 obtain ⟨ax,cx,rfl⟩:=hS.at
 obtain ⟨ay,cy,rfl⟩:=hy.at
 obtain ⟨az,cz,rfl⟩:=hz.at
 refine⟨ax,ay,az,cx,cy,cz,?_,?_,?_⟩
 ·rw [hl,List.length_map]
 ·rw [atM_len]
 ·rw [List.length_map]
theorem RWr.row {w:World} {B:Nat} {v:Value} {l:List (List Nat)} (h:RWr w B v l):∃(a:Option Addr) (c:Nat),v= .slice a l.length c∧(l≠ []→∃gx,a=some ⟨gx,0,none⟩∧B≤gx∧gx<w.heap.size∧∀i (hi:i<l.length),∃g,w.cell? ⟨gx,i,none⟩=some (.slice (some ⟨g,0,none⟩) l[i].length l[i].length)∧B≤g∧g<w.heap.size∧∀j (hj:j<l[i].length),w.cell? ⟨g,j,none⟩=some (.int .i64 (l[i][j]:Int))):=by
 obtain ⟨rs,hS,hl,hr⟩:=h
 obtain ⟨a,c,e⟩:=hS.at
 refine⟨a,c,by rw [e,hl],fun hne=>?_⟩
 obtain ⟨gx,cx,e2,hB,hc,hm,hsh,hR⟩:=hS.block (by intro e3;rw [e3]at hl;exact hne (List.eq_nil_of_length_eq_zero (by simpa using hl.symm)))
 rw [e]at e2
 injection e2 with e2 _ _
 refine⟨gx,e2,hB,hsh.lt,fun i hi=>?_⟩
 have hi2:i<rs.length:=by omega
 obtain ⟨p1,p2,p3,p4⟩:=hr i rs[i] l[i] (List.getElem?_eq_getElem hi2) (List.getElem?_eq_getElem hi)
 refine⟨rs[i].1,?_,p2,p3.lt,fun j hj=>by have:=p4 j hj 0 _ rfl;simpa using this⟩
 ·have:=hR i hi2 0 _ rfl
  rw [←p1]
  simpa using this
theorem TabM.kp {w w':World} {row:Option Nat} {B o:Nat} {m:Msh} {x y z:Value} (h:TabM w B o m x y z) (k:Kp w w' row) (hr:∀g,row=some g→g<B):TabM w' B o m x y z:=
 ⟨h.1.kp k hr,SR.kp h.2.1 k (fun g e e2=>by have:=(h.2.1.own_lt e).1;have:=hr g e2.symm;omega),SR.kp h.2.2 k (fun g e e2=>by have:=(h.2.2.own_lt e).1;have:=hr g e2.symm;omega)⟩
theorem idx_lt {z n:Nat} (h:0<n):z % n<n:=Nat.mod_lt _ h
set_option maxRecDepth 20000 in
set_option maxHeartbeats 8000000 in
theorem law_shared (m:Msh) (o:Nat) (two:Bool) (ho:o=ordN two) (nx ny den fi nb cc z0 z1:Nat) (m0 m1 m2 m3:Int) (cv:Option Addr) (w:World) (hz0:z0<256) (hz1:z1<256) (hT:m.tris.length≤1000) (hn0:0<m.tris.length)
  (hM:∀W:World,Gr w.heap.size w W→Calls Tryz.prog 6 #[.agg #[.int .u8 (nx:Int),.int .u8 (ny:Int),.slice cv nb cc,.int .i8 m0,.int .i8 m1,.int .i8 m2,.int .i8 m3,.int .u8 (den:Int),.int .u8 (fi:Int)]] W (fun e w'=> ∃a b c,e= .returned (.agg #[a,b,c])∧MS w' W.heap.size a b c m∧Gr W.heap.size W w'))
  (hOf:∀(W:World) a b c,MS W 0 a b c m→Calls Tryz.prog 7 #[.agg #[a,b,c],.int .i64 (o:Int)] W (fun e w'=> ∃x y z,e= .returned (.tuple #[tabV o (numM o m) x y z,.int .i64 0])∧TabM w' W.heap.size o m x y z∧Gr W.heap.size W w'))
  (hlaw:∀t∈m.tris,∀u∈m.tris,cornersN t u≤3∧sharedN (rowM o m t) (rowM o m u)=wantN o (cornersN t u)):
  Calls Tryz.prog 3 #[.agg #[.int .u8 (nx:Int),.int .u8 (ny:Int),.slice cv nb cc,.int .i8 m0,.int .i8 m1,.int .i8 m2,.int .i8 m3,.int .u8 (den:Int),.int .u8 (fi:Int)],.bool two,.agg #[.int .u8 (z0:Int),.int .u8 (z1:Int)]] w (fun e w'=>e= .returned (.bool true)∧Below w.heap.size w w'):=by
 have HM:=Lib.hid hM
 have HOF:=Lib.hid hOf
 have HLAW:=Lib.hid hlaw
 have HO:=Lib.hid (fun W=>ho ▸ law_Order two W)
 have ho2:o=1∨o=2:=by rw [ho];unfold ordN;cases two<;>simp
 have HOT:=Lib.hid ho
 clear hM hOf hlaw ho
 go_enter Tryz.func3,Tryz.ntmps3
 go_wp2_with fail
 refine(HM.out _ (by(with_reducible (repeat' (first|exact Gr.refl _ _|refine Gr.drew ?_|refine Gr.setCell ?_ ?_ _|refine Gr.alloc ?_ ?_ _|omega|(simp;done)|(simp;omega)))))).mono ?_
 rintro e w1 ⟨va,vb,vc,rfl,hM,hg1⟩
 have hsz1:=hg1.size
 (try simp at hsz1)
 have HZ1:=Lib.hid (VB.gr (g:=w.heap.size+1) (cs:= [.int .u8 (z0:Int),.int .u8 (z1:Int)]) (by(with_reducible (repeat' (first|(refine VB.new' ?_;exact(by first|omega|(simp;done)|(simp;omega)))|apply VB.put2|apply VB.put3|apply VB.put5|refine VB.drew ?_|refine VB.far ?_ ?_ _|refine VB.alloc ?_ _|omega|(simp;done)|(simp;omega))))) hg1 (by first|omega|(simp;done)|(simp;omega)))
 have HG1:=Lib.hid ((show Gr w.heap.size w ((w.alloc (.cells #[.int .u8 (nx:Int),.int .u8 (ny:Int),.slice cv nb cc,.int .i8 m0,.int .i8 m1,.int .i8 m2,.int .i8 m3,.int .u8 (den:Int),.int .u8 (fi:Int)] 26)).alloc (.cells #[.int .u8 (z0:Int),.int .u8 (z1:Int)] 27))from by(with_reducible (repeat' (first|exact Gr.refl _ _|refine Gr.drew ?_|refine Gr.setCell ?_ ?_ _|refine Gr.alloc ?_ ?_ _|omega|(simp;done)|(simp;omega))))).trans (hg1.mono (by first|omega|(simp;done)|(simp;omega))))
 obtain ⟨hMp,hMt,hMs⟩:=hM
 obtain ⟨ap,cp,rfl⟩:=hMp.at
 obtain ⟨at_,ct,rfl⟩:=hMt.at
 obtain ⟨as_,cs,rfl⟩:=hMs.at
 have HMS:=Lib.hid (show MS (w1.alloc (.cells #[.slice ap m.pts.length cp,.slice at_ m.tris.length ct,.slice as_ m.sides.length cs] 32)) 0 (.slice ap m.pts.length cp) (.slice at_ m.tris.length ct) (.slice as_ m.sides.length cs) m from(show MS w1 0 _ _ _ m from⟨hMp.mono (Nat.zero_le _),hMt.mono (Nat.zero_le _),hMs.mono (Nat.zero_le _)⟩).gr (by(with_reducible (repeat' (first|exact Gr.refl _ _|refine Gr.drew ?_|refine Gr.setCell ?_ ?_ _|refine Gr.alloc ?_ ?_ _|omega|(simp;done)|(simp;omega))))))
 have HV:=Lib.hid (show VB (w1.alloc (.cells #[.slice ap m.pts.length cp,.slice at_ m.tris.length ct,.slice as_ m.sides.length cs] 32)) w1.heap.size [.slice ap m.pts.length cp,.slice at_ m.tris.length ct,.slice as_ m.sides.length cs]from by(with_reducible (repeat' (first|(refine VB.new' ?_;exact(by first|omega|(simp;done)|(simp;omega)))|apply VB.put2|apply VB.put3|apply VB.put5|refine VB.drew ?_|refine VB.far ?_ ?_ _|refine VB.alloc ?_ _|omega|(simp;done)|(simp;omega)))))
 have HZ:=Lib.hid (HZ1.out.alloc (.cells #[.slice ap m.pts.length cp,.slice at_ m.tris.length ct,.slice as_ m.sides.length cs] 32))
 have HG:=Lib.hid (show Gr w.heap.size w (w1.alloc (.cells #[.slice ap m.pts.length cp,.slice at_ m.tris.length ct,.slice as_ m.sides.length cs] 32))from by(with_reducible (repeat' (first|exact Gr.refl _ _|refine Gr.drew ?_|refine Gr.setCell ?_ ?_ _|refine Gr.alloc ?_ ?_ _|refine Gr.trans ?_ (Gr.mono HG1.out ?_)|omega|(simp;done)|(simp;omega)))))
 have hs2:(w1.alloc (.cells #[.slice ap m.pts.length cp,.slice at_ m.tris.length ct,.slice as_ m.sides.length cs] 32)).heap.size=w1.heap.size+1:=by simp
 clear hMp hMt hMs HG1 HZ1 hg1
 go_upto_region 2 with fail
 generalize (w1.alloc (.cells #[.slice ap m.pts.length cp,.slice at_ m.tris.length ct,.slice as_ m.sides.length cs] 32))=w2 at *
 have hmb:w1.heap.size<w2.heap.size:=by omega
 have hwm:w.heap.size+1<w1.heap.size:=by omega
 generalize w1.heap.size=mb at *
 clear hs2 hsz1
 have c0:=HV.out.c 0 _ rfl
 have c1:=HV.out.c 1 _ rfl
 have c2:=HV.out.c 2 _ rfl
 obtain ⟨N,hN⟩:∃q,numM o m=q:=⟨_,rfl⟩
 obtain ⟨E,hE⟩:∃q,(esM m.tris).length=q:=⟨_,rfl⟩
 have HTA:=Lib.hid (fun (W:World) (hW:Gr w2.heap.size w2 W)=>(show Calls Tryz.prog 7 #[.agg #[.slice ap m.pts.length cp,.slice at_ m.tris.length ct,.slice as_ m.sides.length cs],.int .i64 (o:Int)] W (fun e w'=> ∃(ax ay az:Option Addr) (cx cy cz:Nat),e= .returned (.tuple #[.agg #[.int .i64 (o:Int),.int .i64 (N:Int),.slice ax m.tris.length cx,.slice ay N cy,.slice az E cz],.int .i64 0])∧TabM w' W.heap.size o m (.slice ax m.tris.length cx) (.slice ay N cy) (.slice az E cz)∧Gr W.heap.size W w')from by
  refine(HOF.out W _ _ _ (HMS.out.gr hW)).mono ?_
  rintro e w' ⟨x,y,z,rfl,hT,hg⟩
  obtain ⟨ax,ay,az,cx,cy,cz,rfl,rfl,rfl⟩:=hT.at
  rw [hN,hE]at hT
  rw [hN,hE]
  exact⟨ax,ay,az,cx,cy,cz,rfl,hT,hg⟩))
 clear HOF hN hE
 go_cut [8,9] (fun s8 s9 wx=> ∃(tb:Nat) (ax ay az:Option Addr) (cx cy cz:Nat),s8= .pointer (some ⟨tb,0,none⟩)∧s9= .int .i64 0∧VB wx tb [.int .i64 (o:Int),.int .i64 (N:Int),.slice ax m.tris.length cx,.slice ay N cy,.slice az E cz]∧TabM wx w2.heap.size o m (.slice ax m.tris.length cx) (.slice ay N cy) (.slice az E cz)∧w2.heap.size≤tb∧Gr w2.heap.size w2 wx)
 case first=>
  refine wp_region_held_drew (S:=(fun w'=>w'.cell? ⟨mb,0,none⟩=some (.slice ap m.pts.length cp)∧w'.cell? ⟨mb,1,none⟩=some (.slice at_ m.tris.length ct)∧w'.cell? ⟨mb,2,none⟩=some (.slice as_ m.sides.length cs))) (by kernel_rfl) ?_ (fun hHeld=>?_)
  ·simp [go_sem, *]
  refine tk 0 (some 22) (.agg #[.slice ap m.pts.length cp,.slice at_ m.tris.length ct,.slice as_ m.sides.length cs]) ?_
  try simp only [pS]
  refine tk 1 (some 23) (.bool two) ?_
  try simp only [pS]
  refine wpAnyH_ready (rs:= [2,7]) (by kernel_rfl) (by simp) ?_
  refine AllReadyH.cons rfl (fun K hK=>?_) (AllReadyH.cons rfl (fun K hK=>?_) AllReadyH.nil)
  ·go_simp
   (refine(HO.out _).mono ?_;rintro e w3 ⟨rfl,hg3⟩;(try (with_reducible replace hg3:=Gr.of_drew hg3));have hsz3:=hg3.size;(try simp at hsz3);have hy3_0:mb<w3.heap.size:=(by omega);obtain ⟨hc3,hf3⟩:=hg3.cells;have HG3:=Lib.hid hg3;clear hg3)
   (try dsimp only)
   refine hK.out _ _ ?_ (fun hQ1=>?_)
   ·(first|exact trivial|((try dsimp only);simp [go_sem, *]))
   clear hK K hHeld
   try simp only [pS]
   refine wpAnyH_ready (rs:= [3,7]) (by kernel_rfl) (by simp) ?_
   refine AllReadyH.cons rfl (fun K hK=>?_) (AllReadyH.cons rfl (fun K hK=>?_) AllReadyH.nil)
   ·go_simp
    (refine(HTA.out _ (by(with_reducible (repeat' (first|exact Gr.refl _ _|refine Gr.drew ?_|refine Gr.setCell ?_ ?_ _|refine Gr.alloc ?_ ?_ _|refine Gr.trans ?_ (Gr.mono HG3.out ?_)|omega|(simp;done)|(simp;omega)))))).mono ?_;rintro e w4 ⟨ax,ay,az,cx,cy,cz,rfl,hT4,hg4⟩;(try (with_reducible replace hg4:=Gr.of_drew hg4));have hsz4:=hg4.size;(try simp at hsz4);have hy4:mb<w4.heap.size:=(by omega);(try (have hy5:w2.heap.size<w4.heap.size:=(by omega)));obtain ⟨hc4,hf4⟩:=hg4.cells;have HT4:=Lib.hid hT4;have HG4:=Lib.hid hg4;clear hT4 hg4)
    (try dsimp only)
    refine hK.out _ _ ?_ (fun hQ2=>?_)
    ·(first|exact trivial|((try dsimp only);simp [go_sem, *]))
    clear hK K hQ1
    try simp only [pS]
    refine tk 4 (some 21) (.tuple #[.agg #[.int .i64 (o:Int),.int .i64 (N:Int),.slice ax m.tris.length cx,.slice ay N cy,.slice az E cz],.int .i64 0]) ?_
    try simp only [pS]
    refine tk 5 (some 26) (.agg #[.int .i64 (o:Int),.int .i64 (N:Int),.slice ax m.tris.length cx,.slice ay N cy,.slice az E cz]) ?_
    try simp only [pS]
    refine tk 6 (some 27) (.int .i64 0) ?_
    try simp only [pS]
    refine rd 7 (fun K hK=>?_)
    go_simp
    (try dsimp only)
    refine hK.out _ _ ?_ (fun hQ3=>?_)
    ·(first|exact trivial|((try dsimp only);simp [go_sem, *]))
    clear hK K hQ2
    try simp only [pS]
    refine rd 8 (fun K hK=>?_)
    go_simp
    (try dsimp only)
    refine hK.out _ _ ?_ (fun hQ4=>?_)
    ·(first|exact trivial|((try dsimp only);simp [go_sem, *]))
    clear hK K hQ3
    try simp only [pS]
    refine rd 9 (fun K hK=>?_)
    go_simp
    (try dsimp only)
    refine hK.out _ _ ?_ (fun hQ5=>?_)
    ·(first|exact trivial|((try dsimp only);simp [go_sem, *]))
    clear hK K hQ4
    try simp only [pS]
    refine wpAnyH_done (by kernel_rfl) ?_ _
    go_wp2_with fail
    go_meet
    refine⟨w4.heap.size,ax,ay,az,cx,cy,cz,rfl,rfl,by(with_reducible (repeat' (first|(refine VB.new' ?_;exact(by first|omega|(simp;done)|(simp;omega)))|apply VB.put2|apply VB.put3|apply VB.put5|refine VB.drew ?_|refine VB.far ?_ ?_ _|refine VB.alloc ?_ _|omega|(simp;done)|(simp;omega)))),(HT4.out.gr (by(with_reducible (repeat' (first|exact Gr.refl _ _|refine Gr.drew ?_|refine Gr.setCell ?_ ?_ _|refine Gr.alloc ?_ ?_ _|omega|(simp;done)|(simp;omega)))))).mono (by omega),by omega,by(with_reducible (repeat' (first|exact Gr.refl _ _|refine Gr.drew ?_|refine Gr.setCell ?_ ?_ _|refine Gr.alloc ?_ ?_ _|refine Gr.trans ?_ (Gr.mono HG4.out ?_)|refine Gr.trans ?_ (Gr.mono HG3.out ?_)|omega|(simp;done)|(simp;omega))))⟩
   ·go_simp
    (try dsimp only)
    refine hK.out _ _ ?_ (fun hQ2=>?_)
    ·(first|exact trivial|((try dsimp only);simp [go_sem, *]))
    clear hK K hQ1
    try simp only [pS]
    refine rd 3 (fun K hK=>?_)
    go_simp
    (refine(HTA.out _ (by(with_reducible (repeat' (first|exact Gr.refl _ _|refine Gr.drew ?_|refine Gr.setCell ?_ ?_ _|refine Gr.alloc ?_ ?_ _|refine Gr.trans ?_ (Gr.mono HG3.out ?_)|omega|(simp;done)|(simp;omega)))))).mono ?_;rintro e w4 ⟨ax,ay,az,cx,cy,cz,rfl,hT4,hg4⟩;(try (with_reducible replace hg4:=Gr.of_drew hg4));have hsz4:=hg4.size;(try simp at hsz4);have hy4:mb<w4.heap.size:=(by omega);(try (have hy5:w2.heap.size<w4.heap.size:=(by omega)));obtain ⟨hc4,hf4⟩:=hg4.cells;have HT4:=Lib.hid hT4;have HG4:=Lib.hid hg4;clear hT4 hg4)
    (try dsimp only)
    refine hK.out _ _ ?_ (fun hQ3=>?_)
    ·(first|exact trivial|((try dsimp only);simp [go_sem, *]))
    clear hK K hQ2
    try simp only [pS]
    refine tk 4 (some 21) (.tuple #[.agg #[.int .i64 (o:Int),.int .i64 (N:Int),.slice ax m.tris.length cx,.slice ay N cy,.slice az E cz],.int .i64 0]) ?_
    try simp only [pS]
    refine tk 5 (some 26) (.agg #[.int .i64 (o:Int),.int .i64 (N:Int),.slice ax m.tris.length cx,.slice ay N cy,.slice az E cz]) ?_
    try simp only [pS]
    refine tk 6 (some 27) (.int .i64 0) ?_
    try simp only [pS]
    refine rd 8 (fun K hK=>?_)
    go_simp
    (try dsimp only)
    refine hK.out _ _ ?_ (fun hQ4=>?_)
    ·(first|exact trivial|((try dsimp only);simp [go_sem, *]))
    clear hK K hQ3
    try simp only [pS]
    refine rd 9 (fun K hK=>?_)
    go_simp
    (try dsimp only)
    refine hK.out _ _ ?_ (fun hQ5=>?_)
    ·(first|exact trivial|((try dsimp only);simp [go_sem, *]))
    clear hK K hQ4
    try simp only [pS]
    refine wpAnyH_done (by kernel_rfl) ?_ _
    go_wp2_with fail
    go_meet
    refine⟨w3.heap.size,ax,ay,az,cx,cy,cz,rfl,rfl,by(with_reducible (repeat' (first|(refine VB.new' ?_;exact(by first|omega|(simp;done)|(simp;omega)))|apply VB.put2|apply VB.put3|apply VB.put5|refine VB.drew ?_|refine VB.far ?_ ?_ _|refine VB.alloc ?_ _|refine VB.gr ?_ HG4.out ?_|omega|(simp;done)|(simp;omega)))),(HT4.out.kp (Kp.sets w4 (w3.heap.size) 0 [.int .i64 (o:Int),.int .i64 (N:Int),.slice ax m.tris.length cx,.slice ay N cy,.slice az E cz]) (fun g e=>by have:=Option.some.inj e;simp;omega)).mono (by simp;omega),by omega,by(with_reducible (repeat' (first|exact Gr.refl _ _|refine Gr.drew ?_|refine Gr.setCell ?_ ?_ _|refine Gr.alloc ?_ ?_ _|refine Gr.trans ?_ (Gr.mono HG4.out ?_)|refine Gr.trans ?_ (Gr.mono HG3.out ?_)|omega|(simp;done)|(simp;omega))))⟩
  ·go_simp
   (try dsimp only)
   refine hK.out _ _ ?_ (fun hQ1=>?_)
   ·(first|exact trivial|((try dsimp only);simp [go_sem, *]))
   clear hK K hHeld
   try simp only [pS]
   refine rd 2 (fun K hK=>?_)
   go_simp
   (refine(HO.out _).mono ?_;rintro e w3 ⟨rfl,hg3⟩;(try (with_reducible replace hg3:=Gr.of_drew hg3));have hsz3:=hg3.size;(try simp at hsz3);have hy3_0:mb<w3.heap.size:=(by omega);have hy3_1:w2.heap.size<w3.heap.size:=(by omega);obtain ⟨hc3,hf3⟩:=hg3.cells;have HG3:=Lib.hid hg3;clear hg3)
   (try dsimp only)
   refine hK.out _ _ ?_ (fun hQ2=>?_)
   ·(first|exact trivial|((try dsimp only);simp [go_sem, *]))
   clear hK K hQ1
   try simp only [pS]
   refine rd 3 (fun K hK=>?_)
   go_simp
   (refine(HTA.out _ (by(with_reducible (repeat' (first|exact Gr.refl _ _|refine Gr.drew ?_|refine Gr.setCell ?_ ?_ _|refine Gr.alloc ?_ ?_ _|refine Gr.trans ?_ (Gr.mono HG3.out ?_)|omega|(simp;done)|(simp;omega)))))).mono ?_;rintro e w4 ⟨ax,ay,az,cx,cy,cz,rfl,hT4,hg4⟩;(try (with_reducible replace hg4:=Gr.of_drew hg4));have hsz4:=hg4.size;(try simp at hsz4);have hy4:mb<w4.heap.size:=(by omega);(try (have hy5:w2.heap.size<w4.heap.size:=(by omega)));obtain ⟨hc4,hf4⟩:=hg4.cells;have HT4:=Lib.hid hT4;have HG4:=Lib.hid hg4;clear hT4 hg4)
   (try dsimp only)
   refine hK.out _ _ ?_ (fun hQ3=>?_)
   ·(first|exact trivial|((try dsimp only);simp [go_sem, *]))
   clear hK K hQ2
   try simp only [pS]
   refine tk 4 (some 21) (.tuple #[.agg #[.int .i64 (o:Int),.int .i64 (N:Int),.slice ax m.tris.length cx,.slice ay N cy,.slice az E cz],.int .i64 0]) ?_
   try simp only [pS]
   refine tk 5 (some 26) (.agg #[.int .i64 (o:Int),.int .i64 (N:Int),.slice ax m.tris.length cx,.slice ay N cy,.slice az E cz]) ?_
   try simp only [pS]
   refine tk 6 (some 27) (.int .i64 0) ?_
   try simp only [pS]
   refine rd 8 (fun K hK=>?_)
   go_simp
   (try dsimp only)
   refine hK.out _ _ ?_ (fun hQ4=>?_)
   ·(first|exact trivial|((try dsimp only);simp [go_sem, *]))
   clear hK K hQ3
   try simp only [pS]
   refine rd 9 (fun K hK=>?_)
   go_simp
   (try dsimp only)
   refine hK.out _ _ ?_ (fun hQ5=>?_)
   ·(first|exact trivial|((try dsimp only);simp [go_sem, *]))
   clear hK K hQ4
   try simp only [pS]
   refine wpAnyH_done (by kernel_rfl) ?_ _
   go_wp2_with fail
   go_meet
   refine⟨w2.heap.size,ax,ay,az,cx,cy,cz,rfl,rfl,by(with_reducible (repeat' (first|(refine VB.new' ?_;exact(by first|omega|(simp;done)|(simp;omega)))|apply VB.put2|apply VB.put3|apply VB.put5|refine VB.drew ?_|refine VB.far ?_ ?_ _|refine VB.alloc ?_ _|refine VB.gr ?_ HG4.out ?_|refine VB.gr ?_ HG3.out ?_|omega|(simp;done)|(simp;omega)))),(HT4.out.kp (Kp.sets w4 (w2.heap.size) 0 [.int .i64 (o:Int),.int .i64 (N:Int),.slice ax m.tris.length cx,.slice ay N cy,.slice az E cz]) (fun g e=>by have:=Option.some.inj e;omega)).mono (by omega),by omega,by(with_reducible (repeat' (first|exact Gr.refl _ _|refine Gr.drew ?_|refine Gr.setCell ?_ ?_ _|refine Gr.alloc ?_ ?_ _|refine Gr.trans ?_ (Gr.mono HG4.out ?_)|refine Gr.trans ?_ (Gr.mono HG3.out ?_)|omega|(simp;done)|(simp;omega))))⟩
 case rest=>
  clear c0 c1 c2 HTA HO
  obtain ⟨wb,hwb⟩:∃q,q=wc:=⟨_,rfl⟩
  subst hwb
  obtain ⟨tb,ax,ay,az,cx,cy,cz,rfl,rfl,hTV,hTM,htb,hgb⟩:=hcut
  have hszb:=hgb.size
  have HVB:=Lib.hid (HV.out.gr hgb hmb)
  have HZB:=Lib.hid (HZ.out.gr hgb (by omega))
  have HTV:=Lib.hid hTV
  have HTR:=Lib.hid hTM.1
  have HTS:=Lib.hid (HMS.out.2.1.gr hgb)
  have HGB1:=Lib.hid (HG.out.trans (hgb.mono (by omega)))
  have htl:=hTV.lt
  clear hTV hTM hgb HV HZ HMS HG
  have hmbl:mb<wb.heap.size:=by omega
  have hnl:(m.tris.length:Int)≤1000:=by omega
  have hn1:(0:Int)<(m.tris.length:Int):=by omega
  have hn2:¬(m.tris.length:Int)=0:=by omega
  have hn3:((m.tris.length:Int) == 0)=false:=beq_eq_false_iff_ne.2 hn2
  obtain ⟨i,hi⟩:∃i,z0 % m.tris.length=i:=⟨_,rfl⟩
  obtain ⟨k,hk⟩:∃k,z1 % m.tris.length=k:=⟨_,rfl⟩
  have hil:i<m.tris.length:=by rw [←hi];exact idx_lt hn0
  have hkl:k<m.tris.length:=by rw [←hk];exact idx_lt hn0
  have qi:(z0:Int) % (m.tris.length:Int)=(i:Int):=by rw [←hi,Int.natCast_emod]
  have qk:(z1:Int) % (m.tris.length:Int)=(k:Int):=by rw [←hk,Int.natCast_emod]
  clear hi hk
  obtain ⟨c0,c1,c2,-,-,-⟩:=HVB.out.three
  obtain ⟨t0,t1,t2,t3,t4,-⟩:=HTV.out.five
  obtain ⟨z0',z1',-,-⟩:=HZB.out.two
  go_upto_region 7 with fail
  rw [qi,qk]
  clear qi qk z0' z1' HZB
  obtain ⟨t,ht⟩:∃x,m.tris[i]=x:=⟨_,rfl⟩
  obtain ⟨u,hu⟩:∃x,m.tris[k]=x:=⟨_,rfl⟩
  obtain ⟨hc3,hsh⟩:=HLAW.out t (ht ▸ List.getElem_mem hil) u (hu ▸ List.getElem_mem hkl)
  obtain ⟨gt,ct',e4,_,_,_,hshh,hR⟩:=HTS.out.block (by intro e;rw [e]at hn0;simp at hn0)
  injection e4 with e4 _ e5
  subst e4 e5
  have hgt:=hshh.lt
  obtain ⟨u0,u1,u2⟩:=hR.fTri hil ht
  obtain ⟨v0,v1,v2⟩:=hR.fTri hkl hu
  have HCT:=Lib.hid (show ∀a,a<3→wb.cell? ⟨gt,i*3+a,none⟩=some (.int .i64 (crn t a:Int))from fun a ha=>by
   rcases(show a=0∨a=1∨a=2 by omega)with rfl|rfl|rfl
   ·exact u0
   ·exact u1
   ·exact u2)
  have HCU:=Lib.hid (show ∀a,a<3→wb.cell? ⟨gt,k*3+a,none⟩=some (.int .i64 (crn u a:Int))from fun a ha=>by
   rcases(show a=0∨a=1∨a=2 by omega)with rfl|rfl|rfl
   ·exact v0
   ·exact v1
   ·exact v2)
  obtain ⟨a',c',e4,hrow⟩:=HTR.out.row
  injection e4 with e5 e6 e7
  obtain ⟨gx,e8,_,hgx,hall⟩:=hrow (by intro e;have:=congrArg List.length e;simp at this;rw [this]at hn0;simp at hn0)
  rw [e8]at e5
  subst e5 e7
  obtain ⟨gi,vi,_,hgi,ci⟩:=hall i (by simpa using hil)
  obtain ⟨gk,vk,_,hgk,ck⟩:=hall k (by simpa using hkl)
  simp only [List.getElem_map,ht]at vi ci
  simp only [List.getElem_map,hu]at vk ck
  have hr6:=rowT_len o m.pts.length (esM m.tris) t
  have hs6:=rowT_len o m.pts.length (esM m.tris) u
  obtain ⟨r,hr⟩:∃q,rowM o m t=q:=⟨_,rfl⟩
  obtain ⟨s,hs⟩:∃q,rowM o m u=q:=⟨_,rfl⟩
  replace hr6:r.length≤6:=hr ▸ hr6.2
  replace hs6:s.length≤6:=hs ▸ hs6.2
  rw [hr]at vi hsh
  rw [hs]at vk hsh
  simp only [hr]at ci
  simp only [hs]at ck
  have HRI:=Lib.hid (show ∀a,a<r.length→wb.cell? ⟨gi,a,none⟩=some (.int .i64 (r.getD a 0:Int))from fun a ha=>by rw [List.getD_eq_getElem?_getD,List.getElem?_eq_getElem ha];exact ci a ha)
  have HSK:=Lib.hid (show ∀a,a<s.length→wb.cell? ⟨gk,a,none⟩=some (.int .i64 (s.getD a 0:Int))from fun a ha=>by rw [List.getD_eq_getElem?_getD,List.getElem?_eq_getElem ha];exact ck a ha)
  have HC1:=Lib.hid c1
  have HT2:=Lib.hid t2
  have HVI:=Lib.hid vi
  have HVK:=Lib.hid vk
  have HSH:=Lib.hid hsh
  clear hall hrow e6 e8 ci ck hr hs ht hu u0 u1 u2 v0 v1 v2 hR hshh c0 c1 c2 t0 t1 t2 t3 t4 vi vk hsh HTV HTR HTS HVB HLAW
  obtain ⟨f,hf⟩:∃q:Nat→Nat→Bool,(fun a b=>crn t a == crn u b)=q:=⟨_,rfl⟩
  have HF:=Lib.hid (show ∀a b,f a b=(crn t a == crn u b)from fun a b=>by rw [←hf])
  have HCN:=Lib.hid (show cornersN t u=pairsC f 3 3 from by rw [←hf];rfl)
  obtain ⟨g,hg⟩:∃q:Nat→Nat→Bool,(fun a b=>r.getD a 0 == s.getD b 0)=q:=⟨_,rfl⟩
  have HGF:=Lib.hid (show ∀a b,g a b=(r.getD a 0 == s.getD b 0)from fun a b=>by rw [←hg])
  have HSN:=Lib.hid (show sharedN r s=pairsC g s.length r.length from by rw [←hg];rfl)
  clear hf hg
  have hi0:(0:Int)≤(i:Int):=by omega
  have hk0:(0:Int)≤(k:Int):=by omega
  have hii:(i:Int)<(m.tris.length:Int):=by omega
  have hkk:(k:Int)<(m.tris.length:Int):=by omega
  go_wp2
  go_loopw [12,13] (fun c e wr=> ∃a:Nat,a≤3∧e= .int .i64 a∧c= .int .i64 (pairsC f 3 a:Int)∧Hid (Gr wb.heap.size wb wr)) (fun _ e _=>3 - (intOf e).toNat)
  case atStart=>exact⟨0,Nat.zero_le _,rfl,rfl,Lib.hid (Gr.refl _ _)⟩
  case round=>
   obtain ⟨a,ha,rfl,rfl,HGA⟩:=hrel
   have hsza:=HGA.out.size
   have hpl:=pairsC_le f 3 a
   have hpl2:pairsC f 3 a≤36:=Nat.le_trans hpl (Nat.le_trans (Nat.mul_le_mul (show a≤6 by omega) (show 3≤6 by omega)) (by omega))
   clear hpl
   obtain ⟨cn,hcn⟩:∃q,pairsC f 3 a=q:=⟨_,rfl⟩
   rw [hcn]at hpl2
   rw [hcn]
   replace hcn:=Lib.hid hcn
   have x1:=(HGA.out.cell (p:=⟨mb,1,none⟩) (by show mb< _;omega)).trans HC1.out
   by_cases hlt:a<3
   ·have qa:(a:Int)<(3:Int):=by omega
    have qa0:(0:Int)≤(a:Int):=by omega
    go_wp2
    obtain ⟨wo,hwo⟩:∃q,q=wr:=⟨_,rfl⟩
    subst hwo
    go_loopw [12,14] (fun c e wq=> ∃b:Nat,b≤3∧e= .int .i64 b∧c= .int .i64 ((cn+rowC (f a) b:Nat):Int)∧Hid (Gr wb.heap.size wb wq)) (fun _ e _=>3 - (intOf e).toNat)
    case atStart=>exact⟨0,Nat.zero_le _,rfl,rfl,HGA⟩
    case round=>
     clear HGA hsza x1
     obtain ⟨b,hb,rfl,rfl,HGB⟩:=hrel
     have hsza:=HGB.out.size
     have hrl:=rowC_le (f a) b
     obtain ⟨rn,hrn⟩:∃q,rowC (f a) b=q:=⟨_,rfl⟩
     rw [hrn]at hrl
     rw [hrn]
     replace hrn:=Lib.hid hrn
     have x1:=(HGB.out.cell (p:=⟨mb,1,none⟩) (by show mb< _;omega)).trans HC1.out
     by_cases hltb:b<3
     ·have qb:(b:Int)<(3:Int):=by omega
      have qb0:(0:Int)≤(b:Int):=by omega
      have hsucc:Hid (cn+rowC (f a) (b+1)=cn+rn+if f a b then 1 else 0):=Lib.hid (by rw [rowC,hrn.out];omega)
      have xa:=(HGB.out.cell (p:=⟨gt,i*3+a,none⟩) hgt).trans (HCT.out a hlt)
      have xb:=(HGB.out.cell (p:=⟨gt,k*3+b,none⟩) hgt).trans (HCU.out b hltb)
      have hfab:=Lib.hid (HF.out a b)
      obtain ⟨p,hp⟩:∃q,crn t a=q:=⟨_,rfl⟩
      obtain ⟨q,hq⟩:∃q,crn u b=q:=⟨_,rfl⟩
      rw [hp]at xa hfab
      rw [hq]at xb hfab
      clear hp hq
      by_cases hpq:p=q
      ·subst hpq
       replace hsucc:Hid (cn+rowC (f a) (b+1)=cn+rn+1):=Lib.hid (by rw [hsucc.out,hfab.out];simp)
       clear hfab
       go_upto_region 14 with fail
       refine wp_region_held_drew (S:=(fun w'=>w'.cell? ⟨mb,1,none⟩=some (.slice (some ⟨gt,0,none⟩) m.tris.length ct)∧w'.cell? ⟨gt,i*3+a,none⟩=some (.int .i64 (p:Int))∧w'.cell? ⟨gt,k*3+b,none⟩=some (.int .i64 (p:Int)))) (by kernel_rfl) ?_ (fun hHeld=>?_)
       ·simp [go_sem, *]
       refine tk 0 (some 67) (.pointer (some ⟨mb,1,none⟩)) ?_
       try simp only [pS]
       refine tk 1 (some 68) (.slice (some ⟨gt,0,none⟩) m.tris.length ct) ?_
       try simp only [pS]
       refine tk 2 (some 69) (.int .i64 (i:Int)) ?_
       try simp only [pS]
       refine tk 3 (some 70) (.int .i64 (a:Int)) ?_
       try simp only [pS]
       refine tk 4 (some 71) (.pointer (some ⟨gt,i*3,none⟩)) ?_
       try simp only [pS]
       refine tk 5 (some 72) (.pointer (some ⟨gt,i*3+a,none⟩)) ?_
       try simp only [pS]
       refine tk 6 (some 73) (.int .i64 (p:Int)) ?_
       try simp only [pS]
       refine tk 7 (some 74) (.pointer (some ⟨mb,1,none⟩)) ?_
       try simp only [pS]
       refine tk 8 (some 75) (.slice (some ⟨gt,0,none⟩) m.tris.length ct) ?_
       try simp only [pS]
       refine tk 9 (some 76) (.int .i64 (k:Int)) ?_
       try simp only [pS]
       refine tk 10 (some 77) (.int .i64 (b:Int)) ?_
       try simp only [pS]
       refine tk 11 (some 78) (.pointer (some ⟨gt,k*3,none⟩)) ?_
       try simp only [pS]
       refine tk 12 (some 79) (.pointer (some ⟨gt,k*3+b,none⟩)) ?_
       try simp only [pS]
       refine tk 13 (some 80) (.int .i64 (p:Int)) ?_
       try simp only [pS]
       refine tk 14 (some 81) (.bool true) ?_
       try simp only [pS]
       refine wpAnyH_done (by kernel_rfl) ?_ _
       go_wp2
       go_roundw
       case rel=>exact⟨b+1,by omega,by go_num,by rw [hsucc.out];go_num,Lib.hid (HGB.out.trans (by(with_reducible (repeat' (first|exact Gr.refl _ _|refine Gr.drew ?_|refine Gr.setCell ?_ ?_ _|refine Gr.alloc ?_ ?_ _|omega|(simp;done)|(simp;omega))))))⟩
       case measure=>simp [intOf];omega
      ·have hne:((p:Int) == (q:Int))=false:=beq_eq_false_iff_ne.2 (by omega)
       clear hpq
       replace hsucc:Hid (cn+rowC (f a) (b+1)=cn+rn):=Lib.hid (by rw [hsucc.out,hfab.out];simp [show ¬p=q from fun e=>by rw [e]at hne;simp at hne])
       clear hfab
       go_upto_region 14 with fail
       refine wp_region_held_drew (S:=(fun w'=>w'.cell? ⟨mb,1,none⟩=some (.slice (some ⟨gt,0,none⟩) m.tris.length ct)∧w'.cell? ⟨gt,i*3+a,none⟩=some (.int .i64 (p:Int))∧w'.cell? ⟨gt,k*3+b,none⟩=some (.int .i64 (q:Int)))) (by kernel_rfl) ?_ (fun hHeld=>?_)
       ·simp [go_sem, *]
       refine tk 0 (some 67) (.pointer (some ⟨mb,1,none⟩)) ?_
       try simp only [pS]
       refine tk 1 (some 68) (.slice (some ⟨gt,0,none⟩) m.tris.length ct) ?_
       try simp only [pS]
       refine tk 2 (some 69) (.int .i64 (i:Int)) ?_
       try simp only [pS]
       refine tk 3 (some 70) (.int .i64 (a:Int)) ?_
       try simp only [pS]
       refine tk 4 (some 71) (.pointer (some ⟨gt,i*3,none⟩)) ?_
       try simp only [pS]
       refine tk 5 (some 72) (.pointer (some ⟨gt,i*3+a,none⟩)) ?_
       try simp only [pS]
       refine tk 6 (some 73) (.int .i64 (p:Int)) ?_
       try simp only [pS]
       refine tk 7 (some 74) (.pointer (some ⟨mb,1,none⟩)) ?_
       try simp only [pS]
       refine tk 8 (some 75) (.slice (some ⟨gt,0,none⟩) m.tris.length ct) ?_
       try simp only [pS]
       refine tk 9 (some 76) (.int .i64 (k:Int)) ?_
       try simp only [pS]
       refine tk 10 (some 77) (.int .i64 (b:Int)) ?_
       try simp only [pS]
       refine tk 11 (some 78) (.pointer (some ⟨gt,k*3,none⟩)) ?_
       try simp only [pS]
       refine tk 12 (some 79) (.pointer (some ⟨gt,k*3+b,none⟩)) ?_
       try simp only [pS]
       refine tk 13 (some 80) (.int .i64 (q:Int)) ?_
       try simp only [pS]
       refine tk 14 (some 81) (.bool false) ?_
       try simp only [pS]
       refine wpAnyH_done (by kernel_rfl) ?_ _
       go_wp2
       go_roundw
       case rel=>exact⟨b+1,by omega,by go_num,by rw [hsucc.out],Lib.hid (HGB.out.trans (by(with_reducible (repeat' (first|exact Gr.refl _ _|refine Gr.drew ?_|refine Gr.setCell ?_ ?_ _|refine Gr.alloc ?_ ?_ _|omega|(simp;done)|(simp;omega))))))⟩
       case measure=>simp [intOf];omega
     ·have hbl:b=3:=by omega
      subst hbl
      have hnx:Hid (pairsC f 3 (a+1)=cn+rn):=Lib.hid (by rw [pairsC,hcn.out,hrn.out])
      go_wp2
      go_roundw
      case rel=>exact⟨a+1,by omega,by go_num,by rw [hnx.out],HGB⟩
      case measure=>simp [intOf];omega
   ·have hal:a=3:=by omega
    subst hal
    have hcc:cn=cornersN t u:=by rw [HCN.out,hcn.out]
    have hc4:cn≤3:=by rw [hcc];exact hc3
    have HSW:=Lib.hid (show pairsC g s.length r.length=wantN o cn from by rw [←HSN.out,HSH.out,hcc])
    clear hcc hcn HCN x1
    go_wp2
    obtain ⟨cf,hcf⟩:∃q,q=cn:=⟨_,rfl⟩
    rw [←hcf]at hc4 HSW ⊢
    clear hcf
    go_loopw [15,16] (fun c e wr=> ∃a:Nat,a≤r.length∧e= .int .i64 a∧c= .int .i64 (pairsC g s.length a:Int)∧Hid (Gr wb.heap.size wb wr)) (fun _ e _=>r.length - (intOf e).toNat)
    case atStart=>exact⟨0,Nat.zero_le _,rfl,rfl,HGA⟩
    case round=>
     clear HGA
     obtain ⟨a,ha,rfl,rfl,HGA⟩:=hrel
     have hsza:=HGA.out.size
     have hpl:=pairsC_le g s.length a
     have hpl2:pairsC g s.length a≤36:=Nat.le_trans hpl (Nat.le_trans (Nat.mul_le_mul (show a≤6 by omega) (show s.length≤6 by omega)) (by omega))
     clear hpl
     obtain ⟨cn,hcn⟩:∃q,pairsC g s.length a=q:=⟨_,rfl⟩
     rw [hcn]at hpl2
     rw [hcn]
     replace hcn:=Lib.hid hcn
     have x1:=(HGA.out.cell (p:=⟨tb,2,none⟩) (by show tb< _;omega)).trans HT2.out
     have x2:=(HGA.out.cell (p:=⟨gx,i,none⟩) hgx).trans HVI.out
     have x3:=(HGA.out.cell (p:=⟨gx,k,none⟩) hgx).trans HVK.out
     by_cases hlt:a<r.length
     ·have qa:(a:Int)<(r.length:Int):=by omega
      have qa0:(0:Int)≤(a:Int):=by omega
      go_wp2
      obtain ⟨wo,hwo⟩:∃q,q=wr:=⟨_,rfl⟩
      subst hwo
      go_loopw [15,17] (fun c e wq=> ∃b:Nat,b≤s.length∧e= .int .i64 b∧c= .int .i64 ((cn+rowC (g a) b:Nat):Int)∧Hid (Gr wb.heap.size wb wq)) (fun _ e _=>s.length - (intOf e).toNat)
      case atStart=>exact⟨0,Nat.zero_le _,rfl,rfl,HGA⟩
      case round=>
       clear HGA hsza x1 x2 x3
       obtain ⟨b,hb,rfl,rfl,HGB⟩:=hrel
       have hsza:=HGB.out.size
       have hrl:=rowC_le (g a) b
       obtain ⟨rn,hrn⟩:∃q,rowC (g a) b=q:=⟨_,rfl⟩
       rw [hrn]at hrl
       rw [hrn]
       replace hrn:=Lib.hid hrn
       have x1:=(HGB.out.cell (p:=⟨tb,2,none⟩) (by show tb< _;omega)).trans HT2.out
       have x2:=(HGB.out.cell (p:=⟨gx,i,none⟩) hgx).trans HVI.out
       have x3:=(HGB.out.cell (p:=⟨gx,k,none⟩) hgx).trans HVK.out
       by_cases hltb:b<s.length
       ·have qb:(b:Int)<(s.length:Int):=by omega
        have qb0:(0:Int)≤(b:Int):=by omega
        have hsucc:Hid (cn+rowC (g a) (b+1)=cn+rn+if g a b then 1 else 0):=Lib.hid (by rw [rowC,hrn.out];omega)
        have xa:=(HGB.out.cell (p:=⟨gi,a,none⟩) hgi).trans (HRI.out a hlt)
        have xb:=(HGB.out.cell (p:=⟨gk,b,none⟩) hgk).trans (HSK.out b hltb)
        have hfab:=Lib.hid (HGF.out a b)
        obtain ⟨p,hp⟩:∃q,r.getD a 0=q:=⟨_,rfl⟩
        obtain ⟨q,hq⟩:∃q,s.getD b 0=q:=⟨_,rfl⟩
        rw [hp]at xa hfab
        rw [hq]at xb hfab
        clear hp hq
        by_cases hpq:p=q
        ·subst hpq
         replace hsucc:Hid (cn+rowC (g a) (b+1)=cn+rn+1):=Lib.hid (by rw [hsucc.out,hfab.out];simp)
         clear hfab
         go_upto_region 23 with fail
         refine wp_region_held_drew (S:=(fun w'=>w'.cell? ⟨tb,2,none⟩=some (.slice (some ⟨gx,0,none⟩) m.tris.length cx)∧w'.cell? ⟨gx,i,none⟩=some (.slice (some ⟨gi,0,none⟩) r.length r.length)∧w'.cell? ⟨gx,k,none⟩=some (.slice (some ⟨gk,0,none⟩) s.length s.length)∧w'.cell? ⟨gi,a,none⟩=some (.int .i64 (p:Int))∧w'.cell? ⟨gk,b,none⟩=some (.int .i64 (p:Int)))) (by kernel_rfl) ?_ (fun hHeld=>?_)
         ·simp [go_sem, *]
         refine tk 0 (some 104) (.pointer (some ⟨tb,2,none⟩)) ?_
         try simp only [pS]
         refine tk 1 (some 105) (.slice (some ⟨gx,0,none⟩) m.tris.length cx) ?_
         try simp only [pS]
         refine tk 2 (some 106) (.int .i64 (i:Int)) ?_
         try simp only [pS]
         refine tk 3 (some 107) (.pointer (some ⟨gx,i,none⟩)) ?_
         try simp only [pS]
         refine tk 4 (some 108) (.slice (some ⟨gi,0,none⟩) r.length r.length) ?_
         try simp only [pS]
         refine tk 5 (some 109) (.int .i64 (a:Int)) ?_
         try simp only [pS]
         refine tk 6 (some 110) (.pointer (some ⟨gi,a,none⟩)) ?_
         try simp only [pS]
         refine tk 7 (some 111) (.int .i64 (p:Int)) ?_
         try simp only [pS]
         refine tk 8 (some 112) (.pointer (some ⟨tb,2,none⟩)) ?_
         try simp only [pS]
         refine tk 9 (some 113) (.slice (some ⟨gx,0,none⟩) m.tris.length cx) ?_
         try simp only [pS]
         refine tk 10 (some 114) (.int .i64 (k:Int)) ?_
         try simp only [pS]
         refine tk 11 (some 115) (.pointer (some ⟨gx,k,none⟩)) ?_
         try simp only [pS]
         refine tk 12 (some 116) (.slice (some ⟨gk,0,none⟩) s.length s.length) ?_
         try simp only [pS]
         refine tk 13 (some 117) (.int .i64 (b:Int)) ?_
         try simp only [pS]
         refine tk 14 (some 118) (.pointer (some ⟨gk,b,none⟩)) ?_
         try simp only [pS]
         refine tk 15 (some 119) (.int .i64 (p:Int)) ?_
         try simp only [pS]
         refine tk 16 (some 120) (.bool true) ?_
         try simp only [pS]
         refine wpAnyH_done (by kernel_rfl) ?_ _
         go_wp2
         go_roundw
         case rel=>exact⟨b+1,by omega,by go_num,by rw [hsucc.out];go_num,Lib.hid (HGB.out.trans (by(with_reducible (repeat' (first|exact Gr.refl _ _|refine Gr.drew ?_|refine Gr.setCell ?_ ?_ _|refine Gr.alloc ?_ ?_ _|omega|(simp;done)|(simp;omega))))))⟩
         case measure=>simp [intOf];omega
        ·have hne:((p:Int) == (q:Int))=false:=beq_eq_false_iff_ne.2 (by omega)
         clear hpq
         replace hsucc:Hid (cn+rowC (g a) (b+1)=cn+rn):=Lib.hid (by rw [hsucc.out,hfab.out];simp [show ¬p=q from fun e=>by rw [e]at hne;simp at hne])
         clear hfab
         go_upto_region 23 with fail
         refine wp_region_held_drew (S:=(fun w'=>w'.cell? ⟨tb,2,none⟩=some (.slice (some ⟨gx,0,none⟩) m.tris.length cx)∧w'.cell? ⟨gx,i,none⟩=some (.slice (some ⟨gi,0,none⟩) r.length r.length)∧w'.cell? ⟨gx,k,none⟩=some (.slice (some ⟨gk,0,none⟩) s.length s.length)∧w'.cell? ⟨gi,a,none⟩=some (.int .i64 (p:Int))∧w'.cell? ⟨gk,b,none⟩=some (.int .i64 (q:Int)))) (by kernel_rfl) ?_ (fun hHeld=>?_)
         ·simp [go_sem, *]
         refine tk 0 (some 104) (.pointer (some ⟨tb,2,none⟩)) ?_
         try simp only [pS]
         refine tk 1 (some 105) (.slice (some ⟨gx,0,none⟩) m.tris.length cx) ?_
         try simp only [pS]
         refine tk 2 (some 106) (.int .i64 (i:Int)) ?_
         try simp only [pS]
         refine tk 3 (some 107) (.pointer (some ⟨gx,i,none⟩)) ?_
         try simp only [pS]
         refine tk 4 (some 108) (.slice (some ⟨gi,0,none⟩) r.length r.length) ?_
         try simp only [pS]
         refine tk 5 (some 109) (.int .i64 (a:Int)) ?_
         try simp only [pS]
         refine tk 6 (some 110) (.pointer (some ⟨gi,a,none⟩)) ?_
         try simp only [pS]
         refine tk 7 (some 111) (.int .i64 (p:Int)) ?_
         try simp only [pS]
         refine tk 8 (some 112) (.pointer (some ⟨tb,2,none⟩)) ?_
         try simp only [pS]
         refine tk 9 (some 113) (.slice (some ⟨gx,0,none⟩) m.tris.length cx) ?_
         try simp only [pS]
         refine tk 10 (some 114) (.int .i64 (k:Int)) ?_
         try simp only [pS]
         refine tk 11 (some 115) (.pointer (some ⟨gx,k,none⟩)) ?_
         try simp only [pS]
         refine tk 12 (some 116) (.slice (some ⟨gk,0,none⟩) s.length s.length) ?_
         try simp only [pS]
         refine tk 13 (some 117) (.int .i64 (b:Int)) ?_
         try simp only [pS]
         refine tk 14 (some 118) (.pointer (some ⟨gk,b,none⟩)) ?_
         try simp only [pS]
         refine tk 15 (some 119) (.int .i64 (q:Int)) ?_
         try simp only [pS]
         refine tk 16 (some 120) (.bool false) ?_
         try simp only [pS]
         refine wpAnyH_done (by kernel_rfl) ?_ _
         go_wp2
         go_roundw
         case rel=>exact⟨b+1,by omega,by go_num,by rw [hsucc.out],Lib.hid (HGB.out.trans (by(with_reducible (repeat' (first|exact Gr.refl _ _|refine Gr.drew ?_|refine Gr.setCell ?_ ?_ _|refine Gr.alloc ?_ ?_ _|omega|(simp;done)|(simp;omega))))))⟩
         case measure=>simp [intOf];omega
       ·have hbl:b=s.length:=by omega
        subst hbl
        have hnx:Hid (pairsC g s.length (a+1)=cn+rn):=Lib.hid (by rw [pairsC,hcn.out,hrn.out])
        go_wp2
        go_roundw
        case rel=>exact⟨a+1,by omega,by go_num,by rw [hnx.out],HGB⟩
        case measure=>simp [intOf];omega
     ·have hal:a=r.length:=by omega
      subst hal
      have hw:cn=wantN o cf:=by rw [←hcn.out,HSW.out]
      have HGB0:=HGB1
      clear hcn HSW
      cases two
      ·have ho1:o=1:=HOT.out
       subst ho1
       have hw2:cn=cf:=hw
       subst hw2
       clear hw
       go_wp2_with fail
       refine(law_lives _).mono ?_
       rintro e w9 ⟨rfl,hb9⟩
       have HB9:=Lib.hid hb9
       clear hb9
       go_wp2
       go_ret
       exact⟨rfl,((HGB0.out.trans (HGA.out.mono (by omega))).below.trans ((show Gr w.heap.size wr _ from by(with_reducible (repeat' (first|exact Gr.refl _ _|refine Gr.drew ?_|refine Gr.setCell ?_ ?_ _|refine Gr.alloc ?_ ?_ _|omega|(simp;done)|(simp;omega))))).below.trans (HB9.out.mono (by(try simp);omega))))⟩
      ·have ho1:o=2:=HOT.out
       subst ho1
       rcases(show cf=0∨cf=1∨cf=2∨cf=3 by omega)with rfl|rfl|rfl|rfl
       ·have hw2:cn=0:=hw
        subst hw2
        clear hw
        have hmin:min (0:Int) 3=0:=by decide
        go_wp2_with fail
        refine(law_lives _).mono ?_
        rintro e w9 ⟨rfl,hb9⟩
        have HB9:=Lib.hid hb9
        clear hb9
        go_wp2
        go_ret
        exact⟨rfl,((HGB0.out.trans (HGA.out.mono (by omega))).below.trans ((show Gr w.heap.size wr _ from by(with_reducible (repeat' (first|exact Gr.refl _ _|refine Gr.drew ?_|refine Gr.setCell ?_ ?_ _|refine Gr.alloc ?_ ?_ _|omega|(simp;done)|(simp;omega))))).below.trans (HB9.out.mono (by(try simp);omega))))⟩
       ·have hw2:cn=1:=hw
        subst hw2
        clear hw
        have hmin:min (1:Int) 3=1:=by decide
        go_wp2_with fail
        refine(law_lives _).mono ?_
        rintro e w9 ⟨rfl,hb9⟩
        have HB9:=Lib.hid hb9
        clear hb9
        go_wp2
        go_ret
        exact⟨rfl,((HGB0.out.trans (HGA.out.mono (by omega))).below.trans ((show Gr w.heap.size wr _ from by(with_reducible (repeat' (first|exact Gr.refl _ _|refine Gr.drew ?_|refine Gr.setCell ?_ ?_ _|refine Gr.alloc ?_ ?_ _|omega|(simp;done)|(simp;omega))))).below.trans (HB9.out.mono (by(try simp);omega))))⟩
       ·have hw2:cn=3:=hw
        subst hw2
        clear hw
        have hmin:min (2:Int) 3=2:=by decide
        go_wp2_with fail
        refine(law_lives _).mono ?_
        rintro e w9 ⟨rfl,hb9⟩
        have HB9:=Lib.hid hb9
        clear hb9
        go_wp2
        go_ret
        exact⟨rfl,((HGB0.out.trans (HGA.out.mono (by omega))).below.trans ((show Gr w.heap.size wr _ from by(with_reducible (repeat' (first|exact Gr.refl _ _|refine Gr.drew ?_|refine Gr.setCell ?_ ?_ _|refine Gr.alloc ?_ ?_ _|omega|(simp;done)|(simp;omega))))).below.trans (HB9.out.mono (by(try simp);omega))))⟩
       ·have hw2:cn=6:=hw
        subst hw2
        clear hw
        have hmin:min (3:Int) 3=3:=by decide
        go_wp2_with fail
        refine(law_lives _).mono ?_
        rintro e w9 ⟨rfl,hb9⟩
        have HB9:=Lib.hid hb9
        clear hb9
        go_wp2
        go_ret
        exact⟨rfl,((HGB0.out.trans (HGA.out.mono (by omega))).below.trans ((show Gr w.heap.size wr _ from by(with_reducible (repeat' (first|exact Gr.refl _ _|refine Gr.drew ?_|refine Gr.setCell ?_ ?_ _|refine Gr.alloc ?_ ?_ _|omega|(simp;done)|(simp;omega))))).below.trans (HB9.out.mono (by(try simp);omega))))⟩
end Go.Proofs.YtmbmeggbojfecaaGreat
