/-
  Part 24 of the proof: PtC PolA PolB.
-/
import Derived.Test.YtfgmdhjmgdccdaaGreatJ23
import Derived.Test.YtfgmdhjmgdccdaaGreatJ12
import Derived.Test.YtfgmdhjmgdccdaaGreatJ14
import Derived.Test.YtfgmdhjmgdccdaaGreatJ11
import Derived.Test.YtfgmdhjmgdccdaaGreatShelfC
set_option linter.unusedSimpArgs false
set_option linter.unusedVariables false
set_option maxHeartbeats 8000000
namespace Go.Proofs.YtfgmdhjmgdccdaaGreat
open Go.RowKit Gus Go.Maps
set_option maxRecDepth 20000 in
set_option maxHeartbeats 4000000 in
theorem POf_raw {n0 n1:Int} {m0 m1:Nat} {a b:Int} {d e:Nat} (h1:∀w,Calls Tryz.prog 23 #[qV a d] w (Ret w (frV n0 m0))) (h2:∀w,Calls Tryz.prog 23 #[qV b e] w (Ret w (frV n1 m1))) (w:World):Calls Tryz.prog 52 #[.agg #[.int .i64 a,.int .u32 (d:Int),.int .i64 b,.int .u32 (e:Int)]] w (Ret w (p2V n0 m0 n1 m1)):=by
 have h1:=Lh h1
 have h2:=Lh h2
 go_enter Tryz.func52,Tryz.ntmps52
 go_wp2_with fail
 refine wp_region_held_drew (S:=(fun w'=>w'.cell? ⟨w.heap.size,0,none⟩=some (.int .i64 a)∧w'.cell? ⟨w.heap.size,1,none⟩=some (.int .u32 (d:Int))∧w'.cell? ⟨w.heap.size,2,none⟩=some (.int .i64 b)∧w'.cell? ⟨w.heap.size,3,none⟩=some (.int .u32 (e:Int)))) (by kernel_rfl) ?_ (fun hHeld=>?_)
 ·simp [go_sem, *]
 refine tq 0 3 (.pointer (some ⟨w.heap.size,0,none⟩)) ?_
 refine tq 1 4 (qV a d) ?_
 refine tq 3 6 (.pointer (some ⟨w.heap.size,2,none⟩)) ?_
 refine tq 4 7 (qV b e) ?_
 refine rd 2 (fun K hK=>?_)
 go_simp
 (refine rtt (h1.out _) fun w1 hsz1 hc1 hf1 HG1=>?_;(try simp at hsz1);have hz1_0:w.heap.size<w1.heap.size:=(by omega);have hz1_1:w.heap.size+1<w1.heap.size:=(by omega))
 refine kO hK fun hH2=>?_
 clear hK K hHeld
 refine rd 5 (fun K hK=>?_)
 go_simp
 (refine rtt (h2.out _) fun w2 hsz2 hc2 hf2 HG2=>?_;(try simp at hsz2);have hz2_0:w.heap.size<w2.heap.size:=(by omega);have hz2_1:w.heap.size+1<w2.heap.size:=(by omega))
 refine kO hK fun hH3=>?_
 clear hK K hH2
 refine tq 6 9 (p2V n0 m0 n1 m1) ?_
 refine rd 7 (fun K hK=>?_)
 go_simp
 refine kO hK fun hH4=>?_
 clear hK K hH3
 refine wpAnyH_done (by kernel_rfl) ?_ _
 go_wp2
 refine ret_row (g:=w.heap.size+1) Tryz.results52 rfl (VB.set (cs:= [zU,zS,.bool false,zU,zS,zU,zS,.bool false,zU,zS]) ?_ [nA n0,nB n0,nC n0,nD m0,nE m0,nA n1,nB n1,nC n1,nD m1,nE m1] rfl) Tryz.underlying64 rfl info_Point rfl ⟨rfl,?_⟩
 ·exact vbc HG2 (vbc HG1 vbb)
 ·exact gcc HG2 (gcc HG1 gzz)
def midP (a b:Pt):Pt:=⟨(a.x+b.x)*(1 / 2),(a.y+b.y)*(1 / 2)⟩
theorem p_Of (a b:Int) (d e:Nat) (w:World) (h1: -9223372036854775808≤a) (h2:a≤9223372036854775807) (h3: -9223372036854775808≤b) (h4:b≤9223372036854775807) (hd:d<4294967296) (he:e<4294967296):Calls Tryz.prog 52 #[.agg #[.int .i64 a,.int .u32 (d:Int),.int .i64 b,.int .u32 (e:Int)]] w (Ret w (pV ⟨qQ a d,qQ b e⟩)):=
 POf_raw (fun w=>q_Of a d w h1 h2 hd) (fun w=>q_Of b e w h3 h4 he) w
end Go.Proofs.YtfgmdhjmgdccdaaGreat
namespace Go.Proofs.YtfgmdhjmgdccdaaGreat
open Go.RowKit Gus
abbrev tC (t:T):List Value:= [.int .i64 t.i,.int .i64 t.j,.int .u64 (lowN (sz t.c.num)),.string (bigS (sz t.c.num)),.bool (ng t.c.num),.int .u64 (lowN (fm t.c)),.string (bigS (fm t.c))]
abbrev tcV (i j:Int) (n:Int) (m:Nat):Value:= .agg #[.int .i64 i,.int .i64 j,.int .u64 (lowN (sz n)),.string (bigS (sz n)),.bool (ng n),.int .u64 (lowN m),.string (bigS m)]
abbrev tV (t:T):Value:= .agg (tC t).toArray
theorem info_Term:(Tryz.prog.info? 111).map (·.size)=some 7:=by kernel_rfl
set_option maxRecDepth 20000 in
set_option maxHeartbeats 4000000 in
theorem may_raw (i j:Nat) (n:Int) (m:Nat) (h:i+j≤12) (w:World):Calls Tryz.prog 96 #[tcV i j n m] w (Ret w (.int .i64 0)):=by
 have h1:¬((i:Int)<0):=by omega
 have h2:¬((j:Int)<0):=by omega
 have h3:¬((12:Int)<(i:Int)):=by omega
 have h4:¬((12:Int) - (i:Int)<(j:Int)):=by omega
 have h5:IntKind.i64.wrap (12 - (i:Int))=12 - (i:Int):=by rw [IntKind.wrap_i64];omega
 generalize (i:Int)=x at *
 generalize (j:Int)=y at *
 clear h
 go_enter Tryz.func96,Tryz.ntmps96
 go_wp2
 go_ret
 exact⟨rfl,by(with_reducible (repeat' (first|exact Gr.refl _ _|refine Gr.drew ?_|refine Gr.setCell ?_ ?_ _|refine Gr.alloc ?_ ?_ _|omega|(simp;done)|(simp;omega))))⟩
theorem po_may (t:T) (h:t.ok) (w:World):Calls Tryz.prog 96 #[tV t] w (Ret w (.int .i64 0)):=may_raw t.i t.j t.c.num (fm t.c) h w
set_option maxRecDepth 20000 in
set_option maxHeartbeats 4000000 in
theorem Zero_raw {i j:Nat} {n s:Int} {m:Nat} (hS:∀w,Calls Tryz.prog 88 #[frV n m] w (Ret w (.int .i64 s))) (w:World):Calls Tryz.prog 87 #[tcV i j n m] w (Ret w (.bool (s == 0))):=by
 have hS:=Lh hS
 generalize (i:Int)=x at *
 generalize (j:Int)=y at *
 go_enter Tryz.func87,Tryz.ntmps87
 go_wp2_with fail
 (refine(hS.out _).mono ?_;rintro e w1 ⟨rfl,hg1⟩;(try (with_reducible replace hg1:=Gr.of_drew hg1));have hsz1:=hg1.size;(try simp at hsz1);have hz1_0:w.heap.size<w1.heap.size:=(by omega);obtain ⟨hc1,hf1⟩:=hg1.cells;have HG1:=Lh hg1;clear hg1)
 go_wp2
 go_ret
 exact⟨by simp,by(with_reducible (repeat' (first|exact Gr.refl _ _|refine Gr.drew ?_|refine Gr.setCell ?_ ?_ _|refine Gr.alloc ?_ ?_ _|refine Gr.trans ?_ (Gr.mono HG1.out ?_)|omega|(simp;done)|(simp;omega))))⟩
theorem po_zero (t:T) (w:World):Calls Tryz.prog 87 #[tV t] w (Ret w (.bool (decide (t.c=0)))):=by
 have h:=Zero_raw (i:=t.i) (j:=t.j) (hS:=fun w=>fr_Sign t.c w) w
 have e:(sgnI t.c.num == 0)=decide (t.c=0):=by
  rw [show decide (t.c=0)=decide (t.c.num=0)from decide_eq_decide.2 Rat.num_eq_zero.symm]
  unfold sgnI
  by_cases h1:t.c.num<0
  ·rw [if_pos h1,decide_eq_false (by omega)];rfl
  ·rw [if_neg h1]
   by_cases h2:t.c.num=0
   ·rw [if_pos h2,decide_eq_true h2];rfl
   ·rw [if_neg h2,decide_eq_false h2];rfl
 rw [e]at h
 exact h
set_option maxRecDepth 20000 in
set_option maxHeartbeats 4000000 in
theorem order_raw {x y x' y' c1 c2 s s':Int} {n n':Int} {m m':Nat} (h1:∀w,Calls Tryz.prog 74 #[.int .i64 s,.int .i64 s'] w (Ret w (.int .i64 c1))) (h2:∀w,Calls Tryz.prog 74 #[.int .i64 y,.int .i64 y'] w (Ret w (.int .i64 c2)))
  (hs:IntKind.i64.wrap (x+y)=s) (hs':IntKind.i64.wrap (x'+y')=s') (w:World):Calls Tryz.prog 90 #[tcV x y n m,tcV x' y' n' m'] w (Ret w (.int .i64 (if c1=0 then c2 else c1))):=by
 have h1:=Lh h1
 have h2:=Lh h2
 have HO:=Lh (cmp_Or2 c1 c2)
 generalize (if c1=0 then c2 else c1)=r at *
 go_enter Tryz.func90,Tryz.ntmps90
 go_wp2_with fail
 refine wp_region_held_drew (S:=(fun w'=>w'.cell? ⟨w.heap.size,0,none⟩=some (.int .i64 x)∧w'.cell? ⟨w.heap.size,1,none⟩=some (.int .i64 y)∧w'.cell? ⟨w.heap.size+1,0,none⟩=some (.int .i64 x')∧w'.cell? ⟨w.heap.size+1,1,none⟩=some (.int .i64 y'))) (by kernel_rfl) ?_ (fun hHeld=>?_)
 ·simp [go_sem, *]
 refine tk 0 (some 5) (.pointer (some ⟨w.heap.size,0,none⟩)) ?_
 try simp only [pS]
 refine tk 1 (some 6) (.int .i64 x) ?_
 try simp only [pS]
 refine tk 2 (some 7) (.pointer (some ⟨w.heap.size,1,none⟩)) ?_
 try simp only [pS]
 refine tk 3 (some 8) (.int .i64 y) ?_
 try simp only [pS]
 refine tk 4 (some 9) (.int .i64 s) ?_
 try simp only [pS]
 refine tk 5 (some 10) (.pointer (some ⟨w.heap.size+1,0,none⟩)) ?_
 try simp only [pS]
 refine tk 6 (some 11) (.int .i64 x') ?_
 try simp only [pS]
 refine tk 7 (some 12) (.pointer (some ⟨w.heap.size+1,1,none⟩)) ?_
 try simp only [pS]
 refine tk 8 (some 13) (.int .i64 y') ?_
 try simp only [pS]
 refine tk 9 (some 14) (.int .i64 s') ?_
 try simp only [pS]
 refine tk 11 (some 16) (.pointer (some ⟨w.heap.size,1,none⟩)) ?_
 try simp only [pS]
 refine tk 12 (some 17) (.int .i64 y) ?_
 try simp only [pS]
 refine tk 13 (some 18) (.pointer (some ⟨w.heap.size+1,1,none⟩)) ?_
 try simp only [pS]
 refine tk 14 (some 19) (.int .i64 y') ?_
 try simp only [pS]
 refine rd 10 (fun K hK=>?_)
 go_simp
 (refine(h1.out _).mono ?_;rintro e w1 ⟨rfl,hg1⟩;(try (with_reducible replace hg1:=Gr.of_drew hg1));have hsz1:=hg1.size;(try simp at hsz1);have hz1_0:w.heap.size<w1.heap.size:=(by omega);have hz1_1:w.heap.size+1<w1.heap.size:=(by omega);obtain ⟨hc1,hf1⟩:=hg1.cells;have HG1:=Lh hg1;clear hg1)
 (try dsimp only)
 refine hK.out _ _ ?_ (fun hH2=>?_)
 ·(first|exact trivial|((try dsimp only);simp [go_sem, *]))
 clear hK K hHeld
 try simp only [pS]
 refine rd 15 (fun K hK=>?_)
 go_simp
 (refine(h2.out _).mono ?_;rintro e w2 ⟨rfl,hg2⟩;(try (with_reducible replace hg2:=Gr.of_drew hg2));have hsz2:=hg2.size;(try simp at hsz2);have hz2_0:w.heap.size<w2.heap.size:=(by omega);have hz2_1:w.heap.size+1<w2.heap.size:=(by omega);obtain ⟨hc2,hf2⟩:=hg2.cells;have HG2:=Lh hg2;clear hg2)
 (try dsimp only)
 refine hK.out _ _ ?_ (fun hH3=>?_)
 ·(first|exact trivial|((try dsimp only);simp [go_sem, *]))
 clear hK K hH2
 try simp only [pS]
 refine rd 16 (fun K hK=>?_)
 go_simp
 (try dsimp only)
 refine hK.out _ _ ?_ (fun hH4=>?_)
 ·(first|exact trivial|((try dsimp only);simp [go_sem, *]))
 clear hK K hH3
 try simp only [pS]
 refine rd 17 (fun K hK=>?_)
 go_simp
 (refine(HO.out _ _ _ (by simp [go_sem]) (by simp [go_sem]) (by simp)).mono ?_;rintro e w3 ⟨rfl,hg3⟩;(try (with_reducible replace hg3:=Gr.of_drew hg3));have hsz3:=hg3.size;(try simp at hsz3);have hz3_0:w.heap.size<w3.heap.size:=(by omega);have hz3_1:w.heap.size+1<w3.heap.size:=(by omega);obtain ⟨hc3,hf3⟩:=hg3.cells;have HG3:=Lh hg3;clear hg3)
 (try dsimp only)
 refine hK.out _ _ ?_ (fun hH5=>?_)
 ·(first|exact trivial|((try dsimp only);simp [go_sem, *]))
 clear hK K hH4
 try simp only [pS]
 refine tk 18 (some 4) (.int .i64 r) ?_
 try simp only [pS]
 refine wpAnyH_done (by kernel_rfl) ?_ _
 go_wp2
 go_ret
 exact⟨rfl,by(with_reducible (repeat' (first|exact Gr.refl _ _|refine Gr.drew ?_|refine Gr.setCell ?_ ?_ _|refine Gr.alloc ?_ ?_ _|refine Gr.trans ?_ (Gr.mono HG3.out ?_)|refine Gr.trans ?_ (Gr.mono HG2.out ?_)|refine Gr.trans ?_ (Gr.mono HG1.out ?_)|omega|(simp;done)|(simp;omega))))⟩
def degW (t:T):Int:=IntKind.i64.wrap ((t.i:Int)+t.j)
def ordW (a b:T):Int:=if Lib.compareInt (degW a) (degW b)=0 then Lib.compareInt a.j b.j else Lib.compareInt (degW a) (degW b)
theorem po_order (a b:T) (w:World):Calls Tryz.prog 90 #[tV a,tV b] w (Ret w (.int .i64 (ordW a b))):=
 order_raw (n:=a.c.num) (m:=fm a.c) (n':=b.c.num) (m':=fm b.c) (fun w=>cmp_Cmp (degW a) (degW b) w) (fun w=>cmp_Cmp a.j b.j w) rfl rfl w
theorem degW_ok {t:T} (h:t.ok):degW t=((t.i+t.j:Nat):Int):=by
 unfold T.ok at h
 unfold degW
 rw [IntKind.wrap_i64];omega
theorem ordW_lt (a b:T):ordW a b<0↔degW a<degW b∨degW a=degW b∧a.j<b.j:=by
 unfold ordW
 rcases Int.lt_trichotomy (degW a) (degW b)with h|h|h
 ·rw [cI_lt _ _ h,if_neg (by omega)];omega
 ·rw [cI_eq _ _ h,if_pos rfl]
  rcases Nat.lt_trichotomy a.j b.j with h2|h2|h2
  ·rw [cI_lt _ _ (by omega)];omega
  ·rw [cI_eq _ _ (by omega)];omega
  ·rw [cI_gt _ _ (by omega)];omega
 ·rw [cI_gt _ _ h,if_neg (by omega)];omega
theorem ordW_ok {a b:T} (ha:a.ok) (hb:b.ok):ordW a b<0↔ltT a b:=by
 rw [ordW_lt,degW_ok ha,degW_ok hb]
 unfold ltT
 omega
set_option maxRecDepth 20000 in
set_option maxHeartbeats 4000000 in
theorem PScl1_raw {x y n n' r:Int} {m m' rq:Nat} {g:Nat} (hM:∀w,Calls Tryz.prog 37 #[frV n' m',frV n m] w (Ret w (frV r rq))) (w:World) (hV:VB w g (frC n' m')):Calls Tryz.prog 48 #[tcV x y n m,.pointer (some ⟨g,0,none⟩)] w (Ret w (tcV x y r rq)):=by
 have hM:=Lh hM
 have hg:=hV.lt
 obtain ⟨v0,v1,v2,v3,v4,f0,f1,f2,f3,f4⟩:=hV.five
 have hg1:g<w.heap.size+1:=by omega
 have hg2:g<w.heap.size+1+1:=by omega
 have hne:¬g=w.heap.size+1:=by omega
 have hne':¬w.heap.size+1=g:=by omega
 clear hV f0 f1 f2 f3 f4
 go_enter Tryz.func48,Tryz.ntmps48
 go_wp2_with fail
 refine wp_region_held_drew (S:=(fun w'=>w'.cell? ⟨w.heap.size,0,none⟩=some (.int .i64 x)∧w'.cell? ⟨w.heap.size,1,none⟩=some (.int .i64 y)∧w'.cell? ⟨w.heap.size,2,none⟩=some (.int .u64 (lowN (sz n)))∧w'.cell? ⟨w.heap.size,3,none⟩=some (.string (bigS (sz n)))∧w'.cell? ⟨w.heap.size,4,none⟩=some (.bool (ng n))∧w'.cell? ⟨w.heap.size,5,none⟩=some (.int .u64 (lowN m))∧w'.cell? ⟨w.heap.size,6,none⟩=some (.string (bigS m))∧w'.cell? ⟨g,0,none⟩=some (.int .u64 (lowN (sz n')))∧w'.cell? ⟨g,1,none⟩=some (.string (bigS (sz n')))∧w'.cell? ⟨g,2,none⟩=some (.bool (ng n'))∧w'.cell? ⟨g,3,none⟩=some (.int .u64 (lowN m'))∧w'.cell? ⟨g,4,none⟩=some (.string (bigS m')))) (by kernel_rfl) ?_ (fun hHeld=>?_)
 ·simp [go_sem, *]
 refine tk 0 (some 4) (.pointer (some ⟨w.heap.size,0,none⟩)) ?_
 try simp only [pS]
 refine tk 1 (some 5) (.int .i64 x) ?_
 try simp only [pS]
 refine tk 2 (some 6) (.pointer (some ⟨w.heap.size,1,none⟩)) ?_
 try simp only [pS]
 refine tk 3 (some 7) (.int .i64 y) ?_
 try simp only [pS]
 refine tk 4 (some 8) (frV n' m') ?_
 try simp only [pS]
 refine tk 5 (some 9) (.pointer (some ⟨w.heap.size,2,none⟩)) ?_
 try simp only [pS]
 refine tk 6 (some 10) (frV n m) ?_
 try simp only [pS]
 refine rd 7 (fun K hK=>?_)
 go_simp
 (refine(hM.out _).mono ?_;rintro e w1 ⟨rfl,hg1⟩;(try (with_reducible replace hg1:=Gr.of_drew hg1));have hsz1:=hg1.size;(try simp at hsz1);have hy1_0:g<w1.heap.size:=(by omega);have hz1_0:w.heap.size<w1.heap.size:=(by omega);have hz1_1:w.heap.size+1<w1.heap.size:=(by omega);obtain ⟨hc1,hf1⟩:=hg1.cells;have HG1:=Lh hg1;clear hg1)
 (try dsimp only)
 refine hK.out _ _ ?_ (fun hH2=>?_)
 ·(first|exact trivial|((try dsimp only);simp [go_sem, *]))
 clear hK K hHeld
 try simp only [pS]
 refine tk 8 (some 12) (tcV x y r rq) ?_
 try simp only [pS]
 refine rd 9 (fun K hK=>?_)
 go_simp
 (try dsimp only)
 refine hK.out _ _ ?_ (fun hH3=>?_)
 ·(first|exact trivial|((try dsimp only);simp [go_sem, *]))
 clear hK K hH2
 try simp only [pS]
 refine wpAnyH_done (by kernel_rfl) ?_ _
 go_wp2
 refine ret_row (g:=w.heap.size+1) Tryz.results48 rfl (VB.set (cs:= [.int .i64 0,.int .i64 0,.int .u64 0,.string ⟨#[]⟩,.bool false,.int .u64 0,.string ⟨#[]⟩]) ?_ [.int .i64 x,.int .i64 y,.int .u64 (lowN (sz r)),.string (bigS (sz r)),.bool (ng r),.int .u64 (lowN rq),.string (bigS rq)] rfl) Tryz.underlying111 rfl info_Term rfl ⟨rfl,?_⟩
 ·(with_reducible (repeat' (first|(refine VB.new' ?_;exact(by first|omega|(simp;done)|(simp;omega)))|apply VB.put2|apply VB.put3|apply VB.put5|refine VB.drew ?_|refine VB.far ?_ ?_ _|refine VB.alloc ?_ _|refine VB.gr ?_ HG1.out ?_|omega|(simp;done)|(simp;omega))))
 ·(with_reducible (repeat' (first|exact Gr.refl _ _|refine Gr.drew ?_|refine Gr.setCell ?_ ?_ _|refine Gr.alloc ?_ ?_ _|refine Gr.trans ?_ (Gr.mono HG1.out ?_)|omega|(simp;done)|(simp;omega))))
set_option maxRecDepth 20000 in
set_option maxHeartbeats 4000000 in
theorem Dx1_raw {x y z n r k:Int} {m rq km:Nat} (hz:max 0 (x - 1)=z) (hw:IntKind.i64.wrap (x - 1)=x - 1) (hI:∀w,Calls Tryz.prog 28 #[.int .i64 x] w (Ret w (frV k km))) (hM:∀w,Calls Tryz.prog 37 #[frV n m,frV k km] w (Ret w (frV r rq))) (w:World):
  Calls Tryz.prog 45 #[tcV x y n m] w (Ret w (tcV z y r rq)):=by
 have hI:=Lh hI
 have hM:=Lh hM
 go_enter Tryz.func45,Tryz.ntmps45
 go_wp2_with fail
 refine wp_region_held_drew (S:=(fun w'=>w'.cell? ⟨w.heap.size,0,none⟩=some (.int .i64 x)∧w'.cell? ⟨w.heap.size,1,none⟩=some (.int .i64 y)∧w'.cell? ⟨w.heap.size,2,none⟩=some (.int .u64 (lowN (sz n)))∧w'.cell? ⟨w.heap.size,3,none⟩=some (.string (bigS (sz n)))∧w'.cell? ⟨w.heap.size,4,none⟩=some (.bool (ng n))∧w'.cell? ⟨w.heap.size,5,none⟩=some (.int .u64 (lowN m))∧w'.cell? ⟨w.heap.size,6,none⟩=some (.string (bigS m)))) (by kernel_rfl) ?_ (fun hHeld=>?_)
 ·simp [go_sem, *]
 refine tk 0 (some 3) (.pointer (some ⟨w.heap.size,0,none⟩)) ?_
 try simp only [pS]
 refine tk 1 (some 4) (.int .i64 x) ?_
 try simp only [pS]
 refine tk 2 (some 5) (.int .i64 (x - 1)) ?_
 try simp only [pS]
 refine tk 3 (some 6) (.int .i64 z) ?_
 try simp only [pS]
 refine tk 4 (some 7) (.pointer (some ⟨w.heap.size,1,none⟩)) ?_
 try simp only [pS]
 refine tk 5 (some 8) (.int .i64 y) ?_
 try simp only [pS]
 refine tk 6 (some 9) (.pointer (some ⟨w.heap.size,2,none⟩)) ?_
 try simp only [pS]
 refine tk 7 (some 10) (frV n m) ?_
 try simp only [pS]
 refine tk 8 (some 11) (.pointer (some ⟨w.heap.size,0,none⟩)) ?_
 try simp only [pS]
 refine tk 9 (some 12) (.int .i64 x) ?_
 try simp only [pS]
 refine rd 10 (fun K hK=>?_)
 go_simp
 (refine(hI.out _).mono ?_;rintro e w1 ⟨rfl,hg1⟩;(try (with_reducible replace hg1:=Gr.of_drew hg1));have hsz1:=hg1.size;(try simp at hsz1);have hz1_0:w.heap.size<w1.heap.size:=(by omega);have hz1_1:w.heap.size+1<w1.heap.size:=(by omega);obtain ⟨hc1,hf1⟩:=hg1.cells;have HG1:=Lh hg1;clear hg1)
 (try dsimp only)
 refine hK.out _ _ ?_ (fun hH2=>?_)
 ·(first|exact trivial|((try dsimp only);simp [go_sem, *]))
 clear hK K hHeld
 try simp only [pS]
 refine rd 11 (fun K hK=>?_)
 go_simp
 (refine(hM.out _).mono ?_;rintro e w2 ⟨rfl,hg2⟩;(try (with_reducible replace hg2:=Gr.of_drew hg2));have hsz2:=hg2.size;(try simp at hsz2);have hz2_0:w.heap.size<w2.heap.size:=(by omega);have hz2_1:w.heap.size+1<w2.heap.size:=(by omega);obtain ⟨hc2,hf2⟩:=hg2.cells;have HG2:=Lh hg2;clear hg2)
 (try dsimp only)
 refine hK.out _ _ ?_ (fun hH3=>?_)
 ·(first|exact trivial|((try dsimp only);simp [go_sem, *]))
 clear hK K hH2
 try simp only [pS]
 refine tk 12 (some 15) (tcV z y r rq) ?_
 try simp only [pS]
 refine rd 13 (fun K hK=>?_)
 go_simp
 (try dsimp only)
 refine hK.out _ _ ?_ (fun hH4=>?_)
 ·(first|exact trivial|((try dsimp only);simp [go_sem, *]))
 clear hK K hH3
 try simp only [pS]
 refine wpAnyH_done (by kernel_rfl) ?_ _
 go_wp2
 refine ret_row (g:=w.heap.size+1) Tryz.results45 rfl (VB.set (cs:= [.int .i64 0,.int .i64 0,.int .u64 0,.string ⟨#[]⟩,.bool false,.int .u64 0,.string ⟨#[]⟩]) ?_ [.int .i64 z,.int .i64 y,.int .u64 (lowN (sz r)),.string (bigS (sz r)),.bool (ng r),.int .u64 (lowN rq),.string (bigS rq)] rfl) Tryz.underlying111 rfl info_Term rfl ⟨rfl,?_⟩
 ·(with_reducible (repeat' (first|(refine VB.new' ?_;exact(by first|omega|(simp;done)|(simp;omega)))|apply VB.put2|apply VB.put3|apply VB.put5|refine VB.drew ?_|refine VB.far ?_ ?_ _|refine VB.alloc ?_ _|refine VB.gr ?_ HG2.out ?_|refine VB.gr ?_ HG1.out ?_|omega|(simp;done)|(simp;omega))))
 ·(with_reducible (repeat' (first|exact Gr.refl _ _|refine Gr.drew ?_|refine Gr.setCell ?_ ?_ _|refine Gr.alloc ?_ ?_ _|refine Gr.trans ?_ (Gr.mono HG2.out ?_)|refine Gr.trans ?_ (Gr.mono HG1.out ?_)|omega|(simp;done)|(simp;omega))))
set_option maxRecDepth 20000 in
set_option maxHeartbeats 4000000 in
theorem Dy1_raw {x y z n r k:Int} {m rq km:Nat} (hz:max 0 (y - 1)=z) (hw:IntKind.i64.wrap (y - 1)=y - 1) (hI:∀w,Calls Tryz.prog 28 #[.int .i64 y] w (Ret w (frV k km))) (hM:∀w,Calls Tryz.prog 37 #[frV n m,frV k km] w (Ret w (frV r rq))) (w:World):
  Calls Tryz.prog 46 #[tcV x y n m] w (Ret w (tcV x z r rq)):=by
 have hI:=Lh hI
 have hM:=Lh hM
 go_enter Tryz.func46,Tryz.ntmps46
 go_wp2_with fail
 refine wp_region_held_drew (S:=(fun w'=>w'.cell? ⟨w.heap.size,0,none⟩=some (.int .i64 x)∧w'.cell? ⟨w.heap.size,1,none⟩=some (.int .i64 y)∧w'.cell? ⟨w.heap.size,2,none⟩=some (.int .u64 (lowN (sz n)))∧w'.cell? ⟨w.heap.size,3,none⟩=some (.string (bigS (sz n)))∧w'.cell? ⟨w.heap.size,4,none⟩=some (.bool (ng n))∧w'.cell? ⟨w.heap.size,5,none⟩=some (.int .u64 (lowN m))∧w'.cell? ⟨w.heap.size,6,none⟩=some (.string (bigS m)))) (by kernel_rfl) ?_ (fun hHeld=>?_)
 ·simp [go_sem, *]
 refine tk 0 (some 3) (.pointer (some ⟨w.heap.size,0,none⟩)) ?_
 try simp only [pS]
 refine tk 1 (some 4) (.int .i64 x) ?_
 try simp only [pS]
 refine tk 2 (some 5) (.pointer (some ⟨w.heap.size,1,none⟩)) ?_
 try simp only [pS]
 refine tk 3 (some 6) (.int .i64 y) ?_
 try simp only [pS]
 refine tk 4 (some 7) (.int .i64 (y - 1)) ?_
 try simp only [pS]
 refine tk 5 (some 8) (.int .i64 z) ?_
 try simp only [pS]
 refine tk 6 (some 9) (.pointer (some ⟨w.heap.size,2,none⟩)) ?_
 try simp only [pS]
 refine tk 7 (some 10) (frV n m) ?_
 try simp only [pS]
 refine tk 8 (some 11) (.pointer (some ⟨w.heap.size,1,none⟩)) ?_
 try simp only [pS]
 refine tk 9 (some 12) (.int .i64 y) ?_
 try simp only [pS]
 refine rd 10 (fun K hK=>?_)
 go_simp
 (refine(hI.out _).mono ?_;rintro e w1 ⟨rfl,hg1⟩;(try (with_reducible replace hg1:=Gr.of_drew hg1));have hsz1:=hg1.size;(try simp at hsz1);have hz1_0:w.heap.size<w1.heap.size:=(by omega);have hz1_1:w.heap.size+1<w1.heap.size:=(by omega);obtain ⟨hc1,hf1⟩:=hg1.cells;have HG1:=Lh hg1;clear hg1)
 (try dsimp only)
 refine hK.out _ _ ?_ (fun hH2=>?_)
 ·(first|exact trivial|((try dsimp only);simp [go_sem, *]))
 clear hK K hHeld
 try simp only [pS]
 refine rd 11 (fun K hK=>?_)
 go_simp
 (refine(hM.out _).mono ?_;rintro e w2 ⟨rfl,hg2⟩;(try (with_reducible replace hg2:=Gr.of_drew hg2));have hsz2:=hg2.size;(try simp at hsz2);have hz2_0:w.heap.size<w2.heap.size:=(by omega);have hz2_1:w.heap.size+1<w2.heap.size:=(by omega);obtain ⟨hc2,hf2⟩:=hg2.cells;have HG2:=Lh hg2;clear hg2)
 (try dsimp only)
 refine hK.out _ _ ?_ (fun hH3=>?_)
 ·(first|exact trivial|((try dsimp only);simp [go_sem, *]))
 clear hK K hH2
 try simp only [pS]
 refine tk 12 (some 15) (tcV x z r rq) ?_
 try simp only [pS]
 refine rd 13 (fun K hK=>?_)
 go_simp
 (try dsimp only)
 refine hK.out _ _ ?_ (fun hH4=>?_)
 ·(first|exact trivial|((try dsimp only);simp [go_sem, *]))
 clear hK K hH3
 try simp only [pS]
 refine wpAnyH_done (by kernel_rfl) ?_ _
 go_wp2
 refine ret_row (g:=w.heap.size+1) Tryz.results46 rfl (VB.set (cs:= [.int .i64 0,.int .i64 0,.int .u64 0,.string ⟨#[]⟩,.bool false,.int .u64 0,.string ⟨#[]⟩]) ?_ [.int .i64 x,.int .i64 z,.int .u64 (lowN (sz r)),.string (bigS (sz r)),.bool (ng r),.int .u64 (lowN rq),.string (bigS rq)] rfl) Tryz.underlying111 rfl info_Term rfl ⟨rfl,?_⟩
 ·(with_reducible (repeat' (first|(refine VB.new' ?_;exact(by first|omega|(simp;done)|(simp;omega)))|apply VB.put2|apply VB.put3|apply VB.put5|refine VB.drew ?_|refine VB.far ?_ ?_ _|refine VB.alloc ?_ _|refine VB.gr ?_ HG2.out ?_|refine VB.gr ?_ HG1.out ?_|omega|(simp;done)|(simp;omega))))
 ·(with_reducible (repeat' (first|exact Gr.refl _ _|refine Gr.drew ?_|refine Gr.setCell ?_ ?_ _|refine Gr.alloc ?_ ?_ _|refine Gr.trans ?_ (Gr.mono HG2.out ?_)|refine Gr.trans ?_ (Gr.mono HG1.out ?_)|omega|(simp;done)|(simp;omega))))
theorem po_scale1 (k:Rat) (t:T) (g:Nat) (w:World) (hV:VB w g (fracC k)) (hk:hw k≤100000000000) (ht:hw t.c≤100000000000):Calls Tryz.prog 48 #[tV t,.pointer (some ⟨g,0,none⟩)] w (Ret w (tV (t.scale k))):=
 PScl1_raw (fun w=>fr_Mul k t.c w hk ht) w hV
theorem po_dx1 (t:T) (w:World) (h:t.ok) (ht:hw t.c≤100000000000):Calls Tryz.prog 45 #[tV t] w (Ret w (tV t.dx)):=by
 unfold T.ok at h
 have h2:=hw_int t.i (by omega) (by omega)
 exact Dx1_raw (z:=((t.i - 1:Nat):Int)) (by omega) (by rw [IntKind.wrap_i64];omega) (fun w=>fr_Int t.i w (by omega) (by omega)) (fun w=>fr_Mul t.c ((t.i:Int):Rat) w ht (by omega)) w
theorem po_dy1 (t:T) (w:World) (h:t.ok) (ht:hw t.c≤100000000000):Calls Tryz.prog 46 #[tV t] w (Ret w (tV t.dy)):=by
 unfold T.ok at h
 have h2:=hw_int t.j (by omega) (by omega)
 exact Dy1_raw (z:=((t.j - 1:Nat):Int)) (by omega) (by rw [IntKind.wrap_i64];omega) (fun w=>fr_Int t.j w (by omega) (by omega)) (fun w=>fr_Mul t.c ((t.j:Int):Rat) w ht (by omega)) w
end Go.Proofs.YtfgmdhjmgdccdaaGreat
namespace Go.Proofs.YtfgmdhjmgdccdaaGreat
open Go.RowKit Gus
theorem tC_len (t:T):(tC t).length=7:=rfl
abbrev PL (w:World) (B:Nat) (v:Value) (l:List T):Prop:=SL tC 7 111 w B v l
theorem RC.term {w:World} {g:Nat} {l:List T} (h:RC tC 7 w g l) {j:Nat} (hj:j<l.length) {y:T} (hy:l[j]=y):w.cell? ⟨g,j*7,none⟩=some (.int .i64 y.i)∧w.cell? ⟨g,j*7+1,none⟩=some (.int .i64 y.j)∧w.cell? ⟨g,j*7+2,none⟩=some (vA y.c)∧
  w.cell? ⟨g,j*7+3,none⟩=some (vB y.c)∧w.cell? ⟨g,j*7+4,none⟩=some (vC y.c)∧w.cell? ⟨g,j*7+5,none⟩=some (vD y.c)∧w.cell? ⟨g,j*7+6,none⟩=some (vE y.c):=by
 subst hy
 exact⟨h j hj 0 _ rfl,h j hj 1 _ rfl,h j hj 2 _ rfl,h j hj 3 _ rfl,h j hj 4 _ rfl,h j hj 5 _ rfl,h j hj 6 _ rfl⟩
set_option maxRecDepth 20000 in
set_option maxHeartbeats 4000000 in
theorem index_Term {p:T→Bool} {F:FuncId} {cb:Array Value} (l:List T) (g cap:Nat) (w:World) (hR:RC tC 7 w g l) (hg:g<w.heap.size) (hl:l.length≤maxLen) (hp:Tells tV F cb p w):
  Calls Tryz.prog 127 #[.slice (some ⟨g,0,none⟩) l.length cap,.func (.func F) #[] cb] w (Ret w (.int .i64 (idxP p l))):=by
 obtain ⟨eg,hp⟩:=hp
 have HR:=Lh hR
 have HP:=Lh hp
 have hl2:(l.length:Int)≤9223372036854775807:=by simp only [maxLen]at hl;omega
 clear hR hp hl
 go_enter Tryz.func127,Tryz.ntmps127
 go_wp2
 go_loopw [8] (fun s wr=> ∃j:Nat,j≤l.length∧s= .int .i64 j∧Hid (∀i (hi:i<l.length),i<j→p l[i]=false)∧Gr w.heap.size w wr) (fun s _=>l.length - (intOf s).toNat)
 case atStart=>exact⟨0,Nat.zero_le _,rfl,fun i _ h=>by omega,Gr.refl _ _⟩
 case round=>
  obtain ⟨j,hj,rfl,hf,hgr⟩:=hrel
  by_cases hlt:j<l.length
  ·obtain ⟨y,hy⟩:∃y,l[j]=y:=⟨_,rfl⟩
   obtain ⟨v0,v1,v2,v3,v4,v5,v6⟩:=(HR.out.gr hgr hg).term hlt hy
   have HC:=Lh (HP.out wr hgr y)
   have HY:=Lh hy
   have HG:=Lh hgr
   clear hgr hy
   cases hq:p y with
   | true=>
    rw [hq]at HC
    go_wp2_with (go_at_fn F;refine HC.out.mono ?_;rintro e w1 ⟨rfl,hg1⟩;have HG1:=Lh hg1;clear hg1)
    go_ret
    have e:idxP p l=j:=by
     unfold idxP
     rw [List.findIdx?_eq_some_iff_getElem.2 ⟨hlt,by rw [HY.out];exact hq,fun i hi=>by rw [hf.out i (by omega) hi];simp⟩]
    exact⟨by rw [e];rfl,HG.out.trans (HG1.out.mono HG.out.size)⟩
   | false=>
    rw [hq]at HC
    go_wp2_with (go_at_fn F;refine HC.out.mono ?_;rintro e w1 ⟨rfl,hg1⟩;have HG1:=Lh hg1;clear hg1)
    go_roundw
    case rel=>exact⟨j+1,by omega,by go_num,fun i hi h=>by
     rcases Nat.lt_succ_iff_lt_or_eq.1 h with h|h
     ·exact hf.out i hi h
     ·subst h;rw [HY.out];exact hq,HG.out.trans (HG1.out.mono HG.out.size)⟩
    case measure=>simp [intOf];omega
  ·obtain rfl:j=l.length:=by omega
   have HG:=Lh hgr
   clear hgr
   go_wp2
   go_ret
   have e:idxP p l= -1:=by
    unfold idxP
    rw [List.findIdx?_eq_none_iff.2 fun x hx=>by
     obtain ⟨i,hi,rfl⟩:=List.getElem_of_mem hx
     simp [hf.out i hi hi]]
   exact⟨by rw [e];rfl,HG.out⟩
end Go.Proofs.YtfgmdhjmgdccdaaGreat
