/-
  Part 12 of the proof: PtA PtB Poly Row Gen MeshA.
-/
import Derived.Test.YtfgmdhjmgdccdaaGreatJ11
import Derived.Test.YtfgmdhjmgdccdaaGreatJ2
import Derived.Shelf.SlSortCmp.InsertionK
import Derived.Shelf.SlicesQ.Load
import Derived.Test.YtfgmdhjmgdccdaaGreatShelfB
import Derived.Test.YtfgmdhjmgdccdaaGreatShelfD
import Derived.Shelf.SlSortCmp.NoneTotal
import Derived.Maps.OwnSet
import Derived.Maps.OwnOps
import Derived.Maps.Views
import Derived.DeepKeys4
set_option linter.unusedSimpArgs false
set_option linter.unusedVariables false
set_option maxHeartbeats 8000000
namespace Go.Proofs.YtfgmdhjmgdccdaaGreat
open Go.RowKit Gus
structure Pt where
 x:Rat
 y:Rat
deriving DecidableEq
instance:Inhabited Pt:=⟨⟨0,0⟩⟩
abbrev p2C (n0:Int) (m0:Nat) (n1:Int) (m1:Nat):List Value:= [nA n0,nB n0,nC n0,nD m0,nE m0,nA n1,nB n1,nC n1,nD m1,nE m1]
abbrev p2V (n0:Int) (m0:Nat) (n1:Int) (m1:Nat):Value:= .agg #[nA n0,nB n0,nC n0,nD m0,nE m0,nA n1,nB n1,nC n1,nD m1,nE m1]
abbrev pC (p:Pt):List Value:=p2C p.x.num (fm p.x) p.y.num (fm p.y)
abbrev pV (p:Pt):Value:=p2V p.x.num (fm p.x) p.y.num (fm p.y)
theorem info_Point:(Tryz.prog.info? 64).map (·.size)=some 10:=by kernel_rfl
set_option maxRecDepth 20000 in
set_option maxHeartbeats 4000000 in
theorem PtInt_raw {n0 n1:Int} {m0 m1:Nat} (a b:Int) (h1:∀w,Calls Tryz.prog 28 #[.int .i64 a] w (Ret w (frV n0 m0))) (h2:∀w,Calls Tryz.prog 28 #[.int .i64 b] w (Ret w (frV n1 m1))) (w:World):Calls Tryz.prog 65 #[.int .i64 a,.int .i64 b] w (Ret w (p2V n0 m0 n1 m1)):=by
 have h1:=Lh h1
 have h2:=Lh h2
 go_enter Tryz.func65,Tryz.ntmps65
 go_wp2_with fail
 (refine rtu (h1.out _) fun w1 hsz1 hl1 hc1 hf1 HG1=>?_;(try simp at hsz1))
 go_wp2_with fail
 (refine rtu (h2.out _) fun w2 hsz2 hl2 hc2 hf2 HG2=>?_;(try simp at hsz2))
 go_wp2
 refine ret_row (g:=w.heap.size) Tryz.results65 rfl (VB.set (cs:= [zU,zS,.bool false,zU,zS,zU,zS,.bool false,zU,zS]) ?_ [nA n0,nB n0,nC n0,nD m0,nE m0,nA n1,nB n1,nC n1,nD m1,nE m1] rfl) Tryz.underlying64 rfl info_Point rfl ⟨rfl,?_⟩
 ·exact vbc HG2 (vbc HG1 vbb)
 ·exact gcc HG2 (gcc HG1 gzz)
set_option maxRecDepth 20000 in
set_option maxHeartbeats 4000000 in
theorem both_raw {n0 n1 n2 n3:Int} {m0 m1 m2 m3:Nat} {r0 r1:Int} {d0 d1:Nat} (h1:∀w,Calls Tryz.prog 36 #[frV n0 m0,frV n2 m2] w (Ret w (frV r0 d0))) (h2:∀w,Calls Tryz.prog 36 #[frV n1 m1,frV n3 m3] w (Ret w (frV r1 d1))) (w:World):Calls Tryz.prog 129 #[p2V n0 m0 n1 m1,p2V n2 m2 n3 m3,.func (.func 36) #[] #[]] w (Ret w (p2V r0 d0 r1 d1)):=by
 have h1:=Lh h1
 have h2:=Lh h2
 go_enter Tryz.func129,Tryz.ntmps129
 go_wp2_with fail
 refine wp_region_held_drew (S:=(fun w'=>w'.cell? ⟨w.heap.size,0,none⟩=some (nA n0)∧w'.cell? ⟨w.heap.size,1,none⟩=some (nB n0)∧w'.cell? ⟨w.heap.size,2,none⟩=some (nC n0)∧w'.cell? ⟨w.heap.size,3,none⟩=some (nD m0)∧w'.cell? ⟨w.heap.size,4,none⟩=some (nE m0)∧w'.cell? ⟨w.heap.size,5,none⟩=some (nA n1)∧w'.cell? ⟨w.heap.size,6,none⟩=some (nB n1)∧w'.cell? ⟨w.heap.size,7,none⟩=some (nC n1)∧w'.cell? ⟨w.heap.size,8,none⟩=some (nD m1)∧w'.cell? ⟨w.heap.size,9,none⟩=some (nE m1)∧w'.cell? ⟨w.heap.size+1,0,none⟩=some (nA n2)∧w'.cell? ⟨w.heap.size+1,1,none⟩=some (nB n2)∧w'.cell? ⟨w.heap.size+1,2,none⟩=some (nC n2)∧w'.cell? ⟨w.heap.size+1,3,none⟩=some (nD m2)∧w'.cell? ⟨w.heap.size+1,4,none⟩=some (nE m2)∧w'.cell? ⟨w.heap.size+1,5,none⟩=some (nA n3)∧w'.cell? ⟨w.heap.size+1,6,none⟩=some (nB n3)∧w'.cell? ⟨w.heap.size+1,7,none⟩=some (nC n3)∧w'.cell? ⟨w.heap.size+1,8,none⟩=some (nD m3)∧w'.cell? ⟨w.heap.size+1,9,none⟩=some (nE m3))) (by kernel_rfl) ?_ (fun hHeld=>?_)
 ·simp [go_sem, *]
 refine tq 0 7 (.func (.func 36) #[] #[]) ?_
 refine tq 1 8 (.pointer (some ⟨w.heap.size,0,none⟩)) ?_
 refine tq 2 9 (frV n0 m0) ?_
 refine tq 3 10 (.pointer (some ⟨w.heap.size+1,0,none⟩)) ?_
 refine tq 4 11 (frV n2 m2) ?_
 refine tq 6 13 (.func (.func 36) #[] #[]) ?_
 refine tq 7 14 (.pointer (some ⟨w.heap.size,5,none⟩)) ?_
 refine tq 8 15 (frV n1 m1) ?_
 refine tq 9 16 (.pointer (some ⟨w.heap.size+1,5,none⟩)) ?_
 refine tq 10 17 (frV n3 m3) ?_
 refine rd 5 (fun K hK=>?_)
 go_simp
 (refine rtt (h1.out _) fun w1 hsz1 hc1 hf1 HG1=>?_;(try simp at hsz1);have hz1_0:w.heap.size<w1.heap.size:=(by omega);have hz1_1:w.heap.size+1<w1.heap.size:=(by omega);have hz1_2:w.heap.size+1+1<w1.heap.size:=(by omega))
 refine kO hK fun hH2=>?_
 clear hK K hHeld
 refine rd 11 (fun K hK=>?_)
 go_simp
 (refine rtt (h2.out _) fun w2 hsz2 hc2 hf2 HG2=>?_;(try simp at hsz2);have hz2_0:w.heap.size<w2.heap.size:=(by omega);have hz2_1:w.heap.size+1<w2.heap.size:=(by omega);have hz2_2:w.heap.size+1+1<w2.heap.size:=(by omega))
 (try dsimp only)
 refine hK.out _ _ ?_ (fun hH3=>?_)
 ·(first|exact trivial|((try dsimp only);simp [go_sem, *]))
 clear hK K hH2
 try simp only [pS]
 refine tq 12 19 (p2V r0 d0 r1 d1) ?_
 refine rd 13 (fun K hK=>?_)
 go_simp
 refine kO hK fun hH4=>?_
 clear hK K hH3
 refine wpAnyH_done (by kernel_rfl) ?_ _
 go_wp2
 refine ret_row (g:=w.heap.size+1+1) Tryz.results129 rfl (VB.set (cs:= [zU,zS,.bool false,zU,zS,zU,zS,.bool false,zU,zS]) ?_ [nA r0,nB r0,nC r0,nD d0,nE d0,nA r1,nB r1,nC r1,nD d1,nE d1] rfl) Tryz.underlying64 rfl info_Point rfl ⟨rfl,?_⟩
 ·exact vbc HG2 (vbc HG1 vbb)
 ·exact gcc HG2 (gcc HG1 gzz)
set_option maxRecDepth 20000 in
set_option maxHeartbeats 4000000 in
theorem PtSub_raw {n0 n1 n2 n3:Int} {m0 m1 m2 m3:Nat} {r0 r1:Int} {d0 d1:Nat} (h:∀w,Calls Tryz.prog 129 #[p2V n0 m0 n1 m1,p2V n2 m2 n3 m3,.func (.func 36) #[] #[]] w (Ret w (p2V r0 d0 r1 d1))) (w:World):Calls Tryz.prog 92 #[p2V n0 m0 n1 m1,p2V n2 m2 n3 m3] w (Ret w (p2V r0 d0 r1 d1)):=by
 have h:=Lh h
 go_enter Tryz.func92,Tryz.ntmps92
 go_wp2_with fail
 (refine rtu (h.out _) fun w1 hsz1 hl1 hc1 hf1 HG1=>?_;(try simp at hsz1))
 go_wp2
 refine ret_row (g:=w.heap.size+1+1) Tryz.results92 rfl (VB.set (cs:= [zU,zS,.bool false,zU,zS,zU,zS,.bool false,zU,zS]) ?_ [nA r0,nB r0,nC r0,nD d0,nE d0,nA r1,nB r1,nC r1,nD d1,nE d1] rfl) Tryz.underlying64 rfl info_Point rfl ⟨rfl,?_⟩
 ·exact vbc HG1 vbb
 ·exact gcc HG1 gzz
set_option maxRecDepth 20000 in
set_option maxHeartbeats 4000000 in
theorem Cross_raw {n0 n1 n2 n3:Int} {m0 m1 m2 m3:Nat} {p q r:Int} {pm qm rm:Nat} (h1:∀w,Calls Tryz.prog 37 #[frV n0 m0,frV n3 m3] w (Ret w (frV p pm))) (h2:∀w,Calls Tryz.prog 37 #[frV n1 m1,frV n2 m2] w (Ret w (frV q qm))) (h3:∀w,Calls Tryz.prog 36 #[frV p pm,frV q qm] w (Ret w (frV r rm))) (w:World):Calls Tryz.prog 91 #[p2V n0 m0 n1 m1,p2V n2 m2 n3 m3] w (Ret w (frV r rm)):=by
 have h1:=Lh h1
 have h2:=Lh h2
 have h3:=Lh h3
 go_enter Tryz.func91,Tryz.ntmps91
 go_wp2_with fail
 refine wp_region_held_drew (S:=(fun w'=>w'.cell? ⟨w.heap.size,0,none⟩=some (nA n0)∧w'.cell? ⟨w.heap.size,1,none⟩=some (nB n0)∧w'.cell? ⟨w.heap.size,2,none⟩=some (nC n0)∧w'.cell? ⟨w.heap.size,3,none⟩=some (nD m0)∧w'.cell? ⟨w.heap.size,4,none⟩=some (nE m0)∧w'.cell? ⟨w.heap.size,5,none⟩=some (nA n1)∧w'.cell? ⟨w.heap.size,6,none⟩=some (nB n1)∧w'.cell? ⟨w.heap.size,7,none⟩=some (nC n1)∧w'.cell? ⟨w.heap.size,8,none⟩=some (nD m1)∧w'.cell? ⟨w.heap.size,9,none⟩=some (nE m1)∧w'.cell? ⟨w.heap.size+1,0,none⟩=some (nA n2)∧w'.cell? ⟨w.heap.size+1,1,none⟩=some (nB n2)∧w'.cell? ⟨w.heap.size+1,2,none⟩=some (nC n2)∧w'.cell? ⟨w.heap.size+1,3,none⟩=some (nD m2)∧w'.cell? ⟨w.heap.size+1,4,none⟩=some (nE m2)∧w'.cell? ⟨w.heap.size+1,5,none⟩=some (nA n3)∧w'.cell? ⟨w.heap.size+1,6,none⟩=some (nB n3)∧w'.cell? ⟨w.heap.size+1,7,none⟩=some (nC n3)∧w'.cell? ⟨w.heap.size+1,8,none⟩=some (nD m3)∧w'.cell? ⟨w.heap.size+1,9,none⟩=some (nE m3))) (by kernel_rfl) ?_ (fun hHeld=>?_)
 ·simp [go_sem, *]
 refine tq 0 5 (.pointer (some ⟨w.heap.size,0,none⟩)) ?_
 refine tq 1 6 (frV n0 m0) ?_
 refine tq 2 7 (.pointer (some ⟨w.heap.size+1,5,none⟩)) ?_
 refine tq 3 8 (frV n3 m3) ?_
 refine tq 5 10 (.pointer (some ⟨w.heap.size,5,none⟩)) ?_
 refine tq 6 11 (frV n1 m1) ?_
 refine tq 7 12 (.pointer (some ⟨w.heap.size+1,0,none⟩)) ?_
 refine tq 8 13 (frV n2 m2) ?_
 refine rd 4 (fun K hK=>?_)
 go_simp
 (refine rtt (h1.out _) fun w1 hsz1 hc1 hf1 HG1=>?_;(try simp at hsz1);have hz1_0:w.heap.size<w1.heap.size:=(by omega);have hz1_1:w.heap.size+1<w1.heap.size:=(by omega);have hz1_2:w.heap.size+1+1<w1.heap.size:=(by omega))
 refine kO hK fun hH2=>?_
 clear hK K hHeld
 refine rd 9 (fun K hK=>?_)
 go_simp
 (refine rtt (h2.out _) fun w2 hsz2 hc2 hf2 HG2=>?_;(try simp at hsz2);have hz2_0:w.heap.size<w2.heap.size:=(by omega);have hz2_1:w.heap.size+1<w2.heap.size:=(by omega);have hz2_2:w.heap.size+1+1<w2.heap.size:=(by omega))
 (try dsimp only)
 refine hK.out _ _ ?_ (fun hH3=>?_)
 ·(first|exact trivial|((try dsimp only);simp [go_sem, *]))
 clear hK K hH2
 try simp only [pS]
 refine rd 10 (fun K hK=>?_)
 go_simp
 (refine rtt (h3.out _) fun w3 hsz3 hc3 hf3 HG3=>?_;(try simp at hsz3);have hz3_0:w.heap.size<w3.heap.size:=(by omega);have hz3_1:w.heap.size+1<w3.heap.size:=(by omega);have hz3_2:w.heap.size+1+1<w3.heap.size:=(by omega))
 (try dsimp only)
 refine hK.out _ _ ?_ (fun hH4=>?_)
 ·(first|exact trivial|((try dsimp only);simp [go_sem, *]))
 clear hK K hH3
 try simp only [pS]
 refine rd 11 (fun K hK=>?_)
 go_simp
 (try dsimp only)
 refine hK.out _ _ ?_ (fun hH5=>?_)
 ·(first|exact trivial|((try dsimp only);simp [go_sem, *]))
 clear hK K hH4
 try simp only [pS]
 refine wpAnyH_done (by kernel_rfl) ?_ _
 go_wp2
 refine ret_row (g:=w.heap.size+1+1) Tryz.results91 rfl (VB.set (cs:= [zU,zS,.bool false,zU,zS]) ?_ [nA r,nB r,nC r,nD rm,nE rm] rfl) Tryz.underlying59 rfl info_Frac rfl ⟨rfl,?_⟩
 ·exact vbc HG3 (vbc HG2 (vbc HG1 vbb))
 ·exact gcc HG3 (gcc HG2 (gcc HG1 gzz))
set_option maxRecDepth 20000 in
set_option maxHeartbeats 4000000 in
theorem Turn_raw {n0 n1 n2 n3 n4 n5:Int} {m0 m1 m2 m3 m4 m5:Nat} {r0 r1 r2 r3 r s:Int} {d0 d1 d2 d3 rm:Nat} (h1:∀w,Calls Tryz.prog 92 #[p2V n2 m2 n3 m3,p2V n0 m0 n1 m1] w (Ret w (p2V r0 d0 r1 d1))) (h2:∀w,Calls Tryz.prog 92 #[p2V n4 m4 n5 m5,p2V n0 m0 n1 m1] w (Ret w (p2V r2 d2 r3 d3))) (h3:∀w,Calls Tryz.prog 91 #[p2V r0 d0 r1 d1,p2V r2 d2 r3 d3] w (Ret w (frV r rm))) (h4:∀w,Calls Tryz.prog 88 #[frV r rm] w (Ret w (.int .i64 s))) (w:World):Calls Tryz.prog 130 #[p2V n0 m0 n1 m1,p2V n2 m2 n3 m3,p2V n4 m4 n5 m5] w (Ret w (.int .i64 s)):=by
 have h1:=Lh h1
 have h2:=Lh h2
 have h3:=Lh h3
 have h4:=Lh h4
 go_enter Tryz.func130,Tryz.ntmps130
 go_wp2_with fail
 refine wp_region_held_drew (S:=(fun w'=>w'.cell? ⟨w.heap.size,0,none⟩=some (nA n0)∧w'.cell? ⟨w.heap.size,1,none⟩=some (nB n0)∧w'.cell? ⟨w.heap.size,2,none⟩=some (nC n0)∧w'.cell? ⟨w.heap.size,3,none⟩=some (nD m0)∧w'.cell? ⟨w.heap.size,4,none⟩=some (nE m0)∧w'.cell? ⟨w.heap.size,5,none⟩=some (nA n1)∧w'.cell? ⟨w.heap.size,6,none⟩=some (nB n1)∧w'.cell? ⟨w.heap.size,7,none⟩=some (nC n1)∧w'.cell? ⟨w.heap.size,8,none⟩=some (nD m1)∧w'.cell? ⟨w.heap.size,9,none⟩=some (nE m1)∧w'.cell? ⟨w.heap.size+1,0,none⟩=some (nA n2)∧w'.cell? ⟨w.heap.size+1,1,none⟩=some (nB n2)∧w'.cell? ⟨w.heap.size+1,2,none⟩=some (nC n2)∧w'.cell? ⟨w.heap.size+1,3,none⟩=some (nD m2)∧w'.cell? ⟨w.heap.size+1,4,none⟩=some (nE m2)∧w'.cell? ⟨w.heap.size+1,5,none⟩=some (nA n3)∧w'.cell? ⟨w.heap.size+1,6,none⟩=some (nB n3)∧w'.cell? ⟨w.heap.size+1,7,none⟩=some (nC n3)∧w'.cell? ⟨w.heap.size+1,8,none⟩=some (nD m3)∧w'.cell? ⟨w.heap.size+1,9,none⟩=some (nE m3)∧w'.cell? ⟨w.heap.size+1+1,0,none⟩=some (nA n4)∧w'.cell? ⟨w.heap.size+1+1,1,none⟩=some (nB n4)∧w'.cell? ⟨w.heap.size+1+1,2,none⟩=some (nC n4)∧w'.cell? ⟨w.heap.size+1+1,3,none⟩=some (nD m4)∧w'.cell? ⟨w.heap.size+1+1,4,none⟩=some (nE m4)∧w'.cell? ⟨w.heap.size+1+1,5,none⟩=some (nA n5)∧w'.cell? ⟨w.heap.size+1+1,6,none⟩=some (nB n5)∧w'.cell? ⟨w.heap.size+1+1,7,none⟩=some (nC n5)∧w'.cell? ⟨w.heap.size+1+1,8,none⟩=some (nD m5)∧w'.cell? ⟨w.heap.size+1+1,9,none⟩=some (nE m5))) (by kernel_rfl) ?_ (fun hHeld=>?_)
 ·simp [go_sem, *]
 refine tq 0 7 (p2V n2 m2 n3 m3) ?_
 refine tq 1 8 (p2V n0 m0 n1 m1) ?_
 refine tq 3 10 (p2V n4 m4 n5 m5) ?_
 refine tq 4 11 (p2V n0 m0 n1 m1) ?_
 refine rd 2 (fun K hK=>?_)
 go_simp
 (refine rtt (h1.out _) fun w1 hsz1 hc1 hf1 HG1=>?_;(try simp at hsz1);have hz1_0:w.heap.size<w1.heap.size:=(by omega);have hz1_1:w.heap.size+1<w1.heap.size:=(by omega);have hz1_2:w.heap.size+1+1<w1.heap.size:=(by omega))
 refine kO hK fun hH2=>?_
 clear hK K hHeld
 refine rd 5 (fun K hK=>?_)
 go_simp
 (refine rtt (h2.out _) fun w2 hsz2 hc2 hf2 HG2=>?_;(try simp at hsz2);have hz2_0:w.heap.size<w2.heap.size:=(by omega);have hz2_1:w.heap.size+1<w2.heap.size:=(by omega);have hz2_2:w.heap.size+1+1<w2.heap.size:=(by omega))
 (try dsimp only)
 refine hK.out _ _ ?_ (fun hH3=>?_)
 ·(first|exact trivial|((try dsimp only);simp [go_sem, *]))
 clear hK K hH2
 try simp only [pS]
 refine rd 6 (fun K hK=>?_)
 go_simp
 (refine rtt (h3.out _) fun w3 hsz3 hc3 hf3 HG3=>?_;(try simp at hsz3);have hz3_0:w.heap.size<w3.heap.size:=(by omega);have hz3_1:w.heap.size+1<w3.heap.size:=(by omega);have hz3_2:w.heap.size+1+1<w3.heap.size:=(by omega))
 (try dsimp only)
 refine hK.out _ _ ?_ (fun hH4=>?_)
 ·(first|exact trivial|((try dsimp only);simp [go_sem, *]))
 clear hK K hH3
 try simp only [pS]
 refine rd 7 (fun K hK=>?_)
 go_simp
 (refine rtt (h4.out _) fun w4 hsz4 hc4 hf4 HG4=>?_;(try simp at hsz4);have hz4_0:w.heap.size<w4.heap.size:=(by omega);have hz4_1:w.heap.size+1<w4.heap.size:=(by omega);have hz4_2:w.heap.size+1+1<w4.heap.size:=(by omega))
 (try dsimp only)
 refine hK.out _ _ ?_ (fun hH5=>?_)
 ·(first|exact trivial|((try dsimp only);simp [go_sem, *]))
 clear hK K hH4
 try simp only [pS]
 refine tq 8 6 (.int .i64 s) ?_
 refine wpAnyH_done (by kernel_rfl) ?_ _
 go_wp2
 go_ret
 exact⟨rfl,by exact gcc HG4 (gcc HG3 (gcc HG2 (gcc HG1 gzz)))⟩
set_option maxRecDepth 20000 in
set_option maxHeartbeats 4000000 in
theorem twice_raw {n0 n1 n2 n3 n4 n5:Int} {m0 m1 m2 m3 m4 m5:Nat} {r0 r1 r2 r3 r:Int} {d0 d1 d2 d3 rm:Nat} (h1:∀w,Calls Tryz.prog 92 #[p2V n2 m2 n3 m3,p2V n0 m0 n1 m1] w (Ret w (p2V r0 d0 r1 d1))) (h2:∀w,Calls Tryz.prog 92 #[p2V n4 m4 n5 m5,p2V n0 m0 n1 m1] w (Ret w (p2V r2 d2 r3 d3))) (h3:∀w,Calls Tryz.prog 91 #[p2V r0 d0 r1 d1,p2V r2 d2 r3 d3] w (Ret w (frV r rm))) (w:World):Calls Tryz.prog 50 #[p2V n0 m0 n1 m1,p2V n2 m2 n3 m3,p2V n4 m4 n5 m5] w (Ret w (frV r rm)):=by
 have h1:=Lh h1
 have h2:=Lh h2
 have h3:=Lh h3
 go_enter Tryz.func50,Tryz.ntmps50
 go_wp2_with fail
 refine wp_region_held_drew (S:=(fun w'=>w'.cell? ⟨w.heap.size,0,none⟩=some (nA n0)∧w'.cell? ⟨w.heap.size,1,none⟩=some (nB n0)∧w'.cell? ⟨w.heap.size,2,none⟩=some (nC n0)∧w'.cell? ⟨w.heap.size,3,none⟩=some (nD m0)∧w'.cell? ⟨w.heap.size,4,none⟩=some (nE m0)∧w'.cell? ⟨w.heap.size,5,none⟩=some (nA n1)∧w'.cell? ⟨w.heap.size,6,none⟩=some (nB n1)∧w'.cell? ⟨w.heap.size,7,none⟩=some (nC n1)∧w'.cell? ⟨w.heap.size,8,none⟩=some (nD m1)∧w'.cell? ⟨w.heap.size,9,none⟩=some (nE m1)∧w'.cell? ⟨w.heap.size+1,0,none⟩=some (nA n2)∧w'.cell? ⟨w.heap.size+1,1,none⟩=some (nB n2)∧w'.cell? ⟨w.heap.size+1,2,none⟩=some (nC n2)∧w'.cell? ⟨w.heap.size+1,3,none⟩=some (nD m2)∧w'.cell? ⟨w.heap.size+1,4,none⟩=some (nE m2)∧w'.cell? ⟨w.heap.size+1,5,none⟩=some (nA n3)∧w'.cell? ⟨w.heap.size+1,6,none⟩=some (nB n3)∧w'.cell? ⟨w.heap.size+1,7,none⟩=some (nC n3)∧w'.cell? ⟨w.heap.size+1,8,none⟩=some (nD m3)∧w'.cell? ⟨w.heap.size+1,9,none⟩=some (nE m3)∧w'.cell? ⟨w.heap.size+1+1,0,none⟩=some (nA n4)∧w'.cell? ⟨w.heap.size+1+1,1,none⟩=some (nB n4)∧w'.cell? ⟨w.heap.size+1+1,2,none⟩=some (nC n4)∧w'.cell? ⟨w.heap.size+1+1,3,none⟩=some (nD m4)∧w'.cell? ⟨w.heap.size+1+1,4,none⟩=some (nE m4)∧w'.cell? ⟨w.heap.size+1+1,5,none⟩=some (nA n5)∧w'.cell? ⟨w.heap.size+1+1,6,none⟩=some (nB n5)∧w'.cell? ⟨w.heap.size+1+1,7,none⟩=some (nC n5)∧w'.cell? ⟨w.heap.size+1+1,8,none⟩=some (nD m5)∧w'.cell? ⟨w.heap.size+1+1,9,none⟩=some (nE m5))) (by kernel_rfl) ?_ (fun hHeld=>?_)
 ·simp [go_sem, *]
 refine tq 0 7 (p2V n2 m2 n3 m3) ?_
 refine tq 1 8 (p2V n0 m0 n1 m1) ?_
 refine tq 3 10 (p2V n4 m4 n5 m5) ?_
 refine tq 4 11 (p2V n0 m0 n1 m1) ?_
 refine rd 2 (fun K hK=>?_)
 go_simp
 (refine rtt (h1.out _) fun w1 hsz1 hc1 hf1 HG1=>?_;(try simp at hsz1);have hz1_0:w.heap.size<w1.heap.size:=(by omega);have hz1_1:w.heap.size+1<w1.heap.size:=(by omega);have hz1_2:w.heap.size+1+1<w1.heap.size:=(by omega);have hz1_3:w.heap.size+1+1+1<w1.heap.size:=(by omega))
 refine kO hK fun hH2=>?_
 clear hK K hHeld
 refine rd 5 (fun K hK=>?_)
 go_simp
 (refine rtt (h2.out _) fun w2 hsz2 hc2 hf2 HG2=>?_;(try simp at hsz2);have hz2_0:w.heap.size<w2.heap.size:=(by omega);have hz2_1:w.heap.size+1<w2.heap.size:=(by omega);have hz2_2:w.heap.size+1+1<w2.heap.size:=(by omega);have hz2_3:w.heap.size+1+1+1<w2.heap.size:=(by omega))
 (try dsimp only)
 refine hK.out _ _ ?_ (fun hH3=>?_)
 ·(first|exact trivial|((try dsimp only);simp [go_sem, *]))
 clear hK K hH2
 try simp only [pS]
 refine rd 6 (fun K hK=>?_)
 go_simp
 (refine rtt (h3.out _) fun w3 hsz3 hc3 hf3 HG3=>?_;(try simp at hsz3);have hz3_0:w.heap.size<w3.heap.size:=(by omega);have hz3_1:w.heap.size+1<w3.heap.size:=(by omega);have hz3_2:w.heap.size+1+1<w3.heap.size:=(by omega);have hz3_3:w.heap.size+1+1+1<w3.heap.size:=(by omega))
 (try dsimp only)
 refine hK.out _ _ ?_ (fun hH4=>?_)
 ·(first|exact trivial|((try dsimp only);simp [go_sem, *]))
 clear hK K hH3
 try simp only [pS]
 refine rd 7 (fun K hK=>?_)
 go_simp
 (try dsimp only)
 refine hK.out _ _ ?_ (fun hH5=>?_)
 ·(first|exact trivial|((try dsimp only);simp [go_sem, *]))
 clear hK K hH4
 try simp only [pS]
 refine wpAnyH_done (by kernel_rfl) ?_ _
 go_wp2
 refine ret_row (g:=w.heap.size+1+1+1) Tryz.results50 rfl (VB.set (cs:= [zU,zS,.bool false,zU,zS]) ?_ [nA r,nB r,nC r,nD rm,nE rm] rfl) Tryz.underlying59 rfl info_Frac rfl ⟨rfl,?_⟩
 ·exact vbc HG3 (vbc HG2 (vbc HG1 vbb))
 ·exact gcc HG3 (gcc HG2 (gcc HG1 gzz))
set_option maxRecDepth 20000 in
set_option maxHeartbeats 4000000 in
theorem Less_raw1 {n0 n1 n2 n3:Int} {m0 m1 m2 m3:Nat} {c:Int} (h0:c≠0) (h1:∀w,Calls Tryz.prog 179 #[frV n0 m0,frV n2 m2] w (Ret w (.int .i64 c))) (w:World):Calls Tryz.prog 135 #[p2V n0 m0 n1 m1,p2V n2 m2 n3 m3] w (Ret w (.bool (decide (c<0)))):=by
 have h1:=Lh h1
 have hb:(c == 0)=false:=by simp [h0]
 go_enter Tryz.func135,Tryz.ntmps135
 go_wp2_with fail
 (refine rtu (h1.out _) fun w1 hsz1 hl1 hc1 hf1 HG1=>?_;(try simp at hsz1))
 go_wp2
 go_ret
 exact⟨by simp,by exact gcc HG1 gzz⟩
set_option maxRecDepth 20000 in
set_option maxHeartbeats 4000000 in
theorem Less_raw0 {n0 n1 n2 n3:Int} {m0 m1 m2 m3:Nat} {c:Int} (h1:∀w,Calls Tryz.prog 179 #[frV n0 m0,frV n2 m2] w (Ret w (.int .i64 0))) (h2:∀w,Calls Tryz.prog 179 #[frV n1 m1,frV n3 m3] w (Ret w (.int .i64 c))) (w:World):Calls Tryz.prog 135 #[p2V n0 m0 n1 m1,p2V n2 m2 n3 m3] w (Ret w (.bool (decide (c<0)))):=by
 have h1:=Lh h1
 have h2:=Lh h2
 go_enter Tryz.func135,Tryz.ntmps135
 go_wp2_with fail
 (refine rtu (h1.out _) fun w1 hsz1 hl1 hc1 hf1 HG1=>?_;(try simp at hsz1))
 go_wp2_with fail
 (refine rtu (h2.out _) fun w2 hsz2 hl2 hc2 hf2 HG2=>?_;(try simp at hsz2))
 go_wp2
 go_ret
 exact⟨by simp,by exact gcc HG2 (gcc HG1 gzz)⟩
end Go.Proofs.YtfgmdhjmgdccdaaGreat
namespace Go.Proofs.YtfgmdhjmgdccdaaGreat
open Go.RowKit Gus
def hp (p:Pt):Nat:=max (hw p.x) (hw p.y)
def Pt.sub (a b:Pt):Pt:=⟨a.x - b.x,a.y - b.y⟩
def Pt.cross (a b:Pt):Rat:=a.x*b.y - a.y*b.x
def twice (a b c:Pt):Rat:=(b.sub a).cross (c.sub a)
def turn (a b c:Pt):Int:=sgnI (twice a b c).num
def lessP (a b:Pt):Bool:=if cmpQ a.x b.x=0 then decide (cmpQ a.y b.y<0)else decide (cmpQ a.x b.x<0)
theorem pt_Int (a b:Int) (w:World) (h1: -9223372036854775808≤a) (h2:a≤9223372036854775807) (h3: -9223372036854775808≤b) (h4:b≤9223372036854775807):Calls Tryz.prog 65 #[.int .i64 a,.int .i64 b] w (Ret w (pV ⟨(a:Rat),(b:Rat)⟩)):=
 PtInt_raw a b (fun w=>fr_Int a w h1 h2) (fun w=>fr_Int b w h3 h4) w
theorem hp_sub (a b:Pt):hp (a.sub b)≤hp a+hp b+1:=by
 have h1:=hw_sub a.x b.x;have h2:=hw_sub a.y b.y
 unfold hp Pt.sub;simp only;omega
theorem hw_cross (a b:Pt):hw (a.cross b)≤2*hp a+2*hp b+1:=by
 have h1:=hw_mul a.x b.y;have h2:=hw_mul a.y b.x;have h3:=hw_sub (a.x*b.y) (a.y*b.x)
 unfold hp Pt.cross;omega
theorem hw_twice (a b c:Pt):hw (twice a b c)≤4*hp a+2*hp b+2*hp c+5:=by
 have h1:=hw_cross (b.sub a) (c.sub a);have h2:=hp_sub b a;have h3:=hp_sub c a
 unfold twice;omega
theorem pt_Sub (a b:Pt) (w:World) (ha:hp a≤10000000000) (hb:hp b≤10000000000):Calls Tryz.prog 92 #[pV a,pV b] w (Ret w (pV (a.sub b))):=by
 unfold hp at ha hb
 exact PtSub_raw (fun w=>both_raw (fun w=>fr_Sub a.x b.x w (by omega) (by omega)) (fun w=>fr_Sub a.y b.y w (by omega) (by omega)) w) w
theorem pt_Cross (a b:Pt) (w:World) (ha:hp a≤10000000000) (hb:hp b≤10000000000):Calls Tryz.prog 91 #[pV a,pV b] w (Ret w (fracV (a.cross b))):=by
 unfold hp at ha hb
 have h1:=hw_mul a.x b.y;have h2:=hw_mul a.y b.x
 exact Cross_raw (fun w=>fr_Mul a.x b.y w (by omega) (by omega)) (fun w=>fr_Mul a.y b.x w (by omega) (by omega)) (fun w=>fr_Sub (a.x*b.y) (a.y*b.x) w (by omega) (by omega)) w
theorem tr_twice (a b c:Pt) (w:World) (ha:hp a≤1000000000) (hb:hp b≤1000000000) (hc:hp c≤1000000000):Calls Tryz.prog 50 #[pV a,pV b,pV c] w (Ret w (fracV (twice a b c))):=by
 have h2:=hp_sub b a;have h3:=hp_sub c a
 exact twice_raw (fun w=>pt_Sub b a w (by omega) (by omega)) (fun w=>pt_Sub c a w (by omega) (by omega)) (fun w=>pt_Cross (b.sub a) (c.sub a) w (by omega) (by omega)) w
theorem pt_Turn (a b c:Pt) (w:World) (ha:hp a≤1000000000) (hb:hp b≤1000000000) (hc:hp c≤1000000000):Calls Tryz.prog 130 #[pV a,pV b,pV c] w (Ret w (.int .i64 (turn a b c))):=by
 have h2:=hp_sub b a;have h3:=hp_sub c a
 exact Turn_raw (fun w=>pt_Sub b a w (by omega) (by omega)) (fun w=>pt_Sub c a w (by omega) (by omega)) (fun w=>pt_Cross (b.sub a) (c.sub a) w (by omega) (by omega)) (fun w=>fr_Sign (twice a b c) w) w
theorem pt_Less (a b:Pt) (w:World) (ha:hp a≤10000000000) (hb:hp b≤10000000000):Calls Tryz.prog 135 #[pV a,pV b] w (Ret w (.bool (lessP a b))):=by
 unfold hp at ha hb
 unfold lessP
 by_cases h:cmpQ a.x b.x=0
 ·rw [if_pos h]
  refine Less_raw0 (fun w=>?_) (fun w=>fr_Cmp a.y b.y w (by omega) (by omega)) w
  have:=fr_Cmp a.x b.x w (by omega) (by omega)
  rw [h]at this
  exact this
 ·rw [if_neg h]
  exact Less_raw1 h (fun w=>fr_Cmp a.x b.x w (by omega) (by omega)) w
end Go.Proofs.YtfgmdhjmgdccdaaGreat
namespace Gus
structure T where
 i:Nat
 j:Nat
 c:Rat
deriving DecidableEq
instance:Inhabited T:=⟨⟨0,0,0⟩⟩
def T.ok (t:T):Prop:=t.i+t.j≤12
instance (t:T):Decidable t.ok:=inferInstanceAs (Decidable (_≤_))
def T.scale (k:Rat) (t:T):T:=⟨t.i,t.j,k*t.c⟩
def T.dx (t:T):T:=⟨t.i - 1,t.j,t.c*((t.i:Int):Rat)⟩
def T.dy (t:T):T:=⟨t.i,t.j - 1,t.c*((t.j:Int):Rat)⟩
def T.at (t:T) (i j:Nat):Bool:=t.i == i && t.j == j
theorem T.at_iff {t:T} {i j:Nat}:t.at i j=true↔t.i=i∧t.j=j:=by simp [T.at]
theorem T.at_false {t:T} {i j:Nat}:t.at i j=false↔¬(t.i=i∧t.j=j):=by
 rw [←T.at_iff];cases t.at i j<;>simp
def ordT (a b:T):Int:=
 if a.i+a.j<b.i+b.j then -1 else if a.i+a.j=b.i+b.j then(if a.j<b.j then -1 else if a.j=b.j then 0 else 1)else 1
def ltT (a b:T):Prop:=a.i+a.j<b.i+b.j∨a.i+a.j=b.i+b.j∧a.j<b.j
instance (a b:T):Decidable (ltT a b):=inferInstanceAs (Decidable (_∨_))
def addT:List T→T→List T
 | [],t=> [⟨t.i,t.j,0+t.c⟩]
 | h :: r,t=>if h.i=t.i∧h.j=t.j then⟨h.i,h.j,h.c+t.c⟩ :: r else h :: addT r t
def gather (l:List T):List T:=l.foldl addT []
def kept (l:List T):List T:=l.filter fun t=> !decide (t.c=0)
def insT (t:T):List T→List T
 | []=> [t]
 | h :: r=>if ltT t h then t :: h :: r else h :: insT t r
def sortT (l:List T):List T:=l.foldr insT []
def gat (l:List T):List T:=sortT (kept (gather l))
def Apart (l:List T):Prop:=l.Pairwise fun a b=> ¬(a.i=b.i∧a.j=b.j)
def Sorted (l:List T):Prop:=l.Pairwise ltT
structure Nf (l:List T):Prop where
 sorted:Sorted l
 nz:∀t∈l,t.c≠0
 ok:∀t∈l,t.ok
def cf:List T→Nat→Nat→Rat
 | [],_,_=>0
 | t :: r,i,j=>(if t.i=i∧t.j=j then t.c else 0)+cf r i j
theorem cf_addT (t:T) (i j:Nat):∀l:List T,cf (addT l t) i j=cf l i j+(if t.i=i∧t.j=j then t.c else 0)
 | []=>by simp [addT,cf,Rat.zero_add,Rat.add_zero]
 | h :: r=>by
  unfold addT
  by_cases e:h.i=t.i∧h.j=t.j
  ·rw [if_pos e]
   simp only [cf,e.1,e.2]
   by_cases e2:t.i=i∧t.j=j
   ·simp only [if_pos e2,Rat.add_assoc,Rat.add_comm (cf r i j)]
   ·simp only [if_neg e2,Rat.add_zero]
  ·rw [if_neg e]
   simp only [cf,cf_addT t i j r,Rat.add_assoc]
theorem cf_fold (i j:Nat):∀(l acc:List T),cf (l.foldl addT acc) i j=cf acc i j+cf l i j
 | [],acc=>by simp [cf,Rat.add_zero]
 | t :: r,acc=>by
  rw [List.foldl_cons,cf_fold i j r,cf_addT]
  simp only [cf,Rat.add_assoc]
theorem cf_gather (l:List T) (i j:Nat):cf (gather l) i j=cf l i j:=by
 unfold gather;rw [cf_fold];simp [cf,Rat.zero_add]
theorem cf_kept (i j:Nat):∀l:List T,cf (kept l) i j=cf l i j
 | []=>rfl
 | t :: r=>by
  have ih:=cf_kept i j r
  unfold kept at ih ⊢
  by_cases h:t.c=0
  ·rw [List.filter_cons_of_neg (by simp [h]),ih];simp [cf,h,Rat.zero_add]
  ·rw [List.filter_cons_of_pos (by simp [h])];simp only [cf,ih]
theorem cf_perm (i j:Nat) {l m:List T} (h:l.Perm m):cf l i j=cf m i j:=by
 induction h with
 | nil=>rfl
 | cons x _ ih=>simp only [cf,ih]
 | swap x y l=>simp only [cf,←Rat.add_assoc,Rat.add_comm (if x.i=i∧x.j=j then x.c else 0)]
 | trans _ _ h1 h2=>exact h1.trans h2
theorem insT_perm (t:T):∀l,(insT t l).Perm (t :: l)
 | []=>List.Perm.refl _
 | h :: r=>by
  unfold insT
  split
  ·exact List.Perm.refl _
  ·exact((insT_perm t r).cons h).trans (List.Perm.swap t h r)
theorem sortT_perm:∀l,(sortT l).Perm l
 | []=>List.Perm.refl _
 | t :: r=>(insT_perm t (sortT r)).trans ((sortT_perm r).cons t)
theorem ltT_trans {a b c:T} (h:ltT a b) (k:ltT b c):ltT a c:=by unfold ltT at *;omega
theorem ltT_irrefl (a:T):¬ltT a a:=by unfold ltT;omega
theorem ltT_total {a b:T} (h:¬(a.i=b.i∧a.j=b.j)) (k:¬ltT a b):ltT b a:=by unfold ltT at *;omega
theorem ltT_apart {a b:T} (h:ltT a b):¬(a.i=b.i∧a.j=b.j):=by unfold ltT at h;omega
theorem addT_mem {t x:T}:∀ {l:List T},x∈addT l t→(∃y∈l,x.i=y.i∧x.j=y.j)∨(x.i=t.i∧x.j=t.j)
 | [],h=>by simp [addT]at h;subst h;exact .inr ⟨rfl,rfl⟩
 | y :: r,h=>by
  unfold addT at h
  split at h
  ·rcases List.mem_cons.1 h with e|e
   ·subst e;exact .inl ⟨y,List.mem_cons_self,rfl,rfl⟩
   ·exact .inl ⟨x,List.mem_cons_of_mem _ e,rfl,rfl⟩
  ·rcases List.mem_cons.1 h with e|e
   ·exact .inl ⟨y,List.mem_cons_self,by rw [e];exact⟨rfl,rfl⟩⟩
   ·rcases addT_mem e with⟨z,hz,h2⟩|h2
    ·exact .inl ⟨z,List.mem_cons_of_mem _ hz,h2⟩
    ·exact .inr h2
theorem apart_addT {t:T}:∀ {l:List T},Apart l→Apart (addT l t)
 | [],_=>by simp [addT,Apart]
 | y :: r,h=>by
  unfold Apart at h ⊢
  rw [List.pairwise_cons]at h
  unfold addT
  split
  ·rename_i e
   rw [List.pairwise_cons]
   exact⟨fun z hz=>h.1 z hz,h.2⟩
  ·rename_i e
   rw [List.pairwise_cons]
   refine⟨fun z hz=>?_,apart_addT (l:=r) h.2⟩
   rcases addT_mem hz with⟨v,hv,h2⟩|h2
   ·rw [h2.1,h2.2];exact h.1 v hv
   ·rw [h2.1,h2.2];exact e
theorem apart_fold:∀(l acc:List T),Apart acc→Apart (l.foldl addT acc)
 | [],_,h=>h
 | t :: r,acc,h=>by rw [List.foldl_cons];exact apart_fold r _ (apart_addT h)
theorem apart_gather (l:List T):Apart (gather l):=apart_fold l [] List.Pairwise.nil
theorem apart_kept {l:List T} (h:Apart l):Apart (kept l):=List.Pairwise.filter _ h
theorem apart_perm {l m:List T} (h:l.Perm m) (k:Apart l):Apart m:=
 h.pairwise k fun {_ _} h2 h3=>h2 ⟨h3.1.symm,h3.2.symm⟩
theorem fold_mem {x:T}:∀(l acc:List T),x∈l.foldl addT acc→(∃y∈acc,x.i=y.i∧x.j=y.j)∨(∃y∈l,x.i=y.i∧x.j=y.j)
 | [],_,h=> .inl ⟨x,h,rfl,rfl⟩
 | t :: r,acc,h=>by
  rw [List.foldl_cons]at h
  rcases fold_mem r _ h with⟨y,hy,h2⟩|⟨y,hy,h2⟩
  ·rcases addT_mem hy with⟨z,hz,h3⟩|h3
   ·exact .inl ⟨z,hz,h2.1.trans h3.1,h2.2.trans h3.2⟩
   ·exact .inr ⟨t,List.mem_cons_self,h2.1.trans h3.1,h2.2.trans h3.2⟩
  ·exact .inr ⟨y,List.mem_cons_of_mem _ hy,h2⟩
theorem sorted_insT {t:T}:∀ {l:List T},Sorted l→(∀y∈l,¬(t.i=y.i∧t.j=y.j))→Sorted (insT t l)
 | [],_,_=>by simp [insT,Sorted]
 | y :: r,h,k=>by
  unfold Sorted at h ⊢
  have h':=h
  rw [List.pairwise_cons]at h
  unfold insT
  split
  ·rename_i e
   rw [List.pairwise_cons]
   exact⟨fun z hz=>by
    rcases List.mem_cons.1 hz with e2|e2
    ·rw [e2];exact e
    ·exact ltT_trans e (h.1 z e2),h'⟩
  ·rename_i e
   rw [List.pairwise_cons]
   refine⟨fun z hz=>?_,sorted_insT (l:=r) h.2 (fun v hv=>k v (List.mem_cons_of_mem _ hv))⟩
   rcases List.mem_cons.1 ((insT_perm t r).mem_iff.1 hz)with e2|e2
   ·rw [e2];exact ltT_total (k y List.mem_cons_self) e
   ·exact h.1 z e2
theorem sorted_sortT:∀ {l:List T},Apart l→Sorted (sortT l)
 | [],_=>List.Pairwise.nil
 | t :: r,h=>by
  unfold Apart at h
  rw [List.pairwise_cons]at h
  exact sorted_insT (sorted_sortT (l:=r) h.2) fun y hy=>h.1 y ((sortT_perm r).mem_iff.1 hy)
theorem sorted_unique {l m:List T} (hl:Sorted l) (hm:Sorted m) (hp:l.Perm m):l=m:=
 hp.eq_of_pairwise (le:=ltT) (fun a _ _ _ h1 h2=>absurd (ltT_trans h1 h2) (ltT_irrefl a)) hl hm
theorem gat_of_sorted {l m:List T} (hm:Sorted m) (hp:m.Perm (kept (gather l))):m=gat l:=
 sorted_unique hm (sorted_sortT (apart_kept (apart_gather l))) (hp.trans (sortT_perm _).symm)
theorem nf_gat {l:List T} (h:∀t∈l,t.ok):Nf (gat l):=by
 refine⟨sorted_sortT (apart_kept (apart_gather l)),fun t ht=>?_,fun t ht=>?_⟩
 ·have:=(sortT_perm _).mem_iff.1 ht
  unfold kept at this
  simp at this
  exact this.2
 ·have:=(sortT_perm _).mem_iff.1 ht
  unfold kept at this
  rw [List.mem_filter]at this
  rcases fold_mem l [] this.1 with⟨y,hy,_⟩|⟨y,hy,h2⟩
  ·simp at hy
  ·have:=h y hy
   unfold T.ok at *
   omega
theorem cf_gat (l:List T) (i j:Nat):cf (gat l) i j=cf l i j:=by
 unfold gat;rw [cf_perm i j (sortT_perm _),cf_kept,cf_gather]
theorem cf_below {l:List T} {i j:Nat} (h:∀t∈l,¬(t.i=i∧t.j=j)):cf l i j=0:=by
 induction l with
 | nil=>rfl
 | cons t r ih=>
  simp only [cf]
  rw [if_neg (h t List.mem_cons_self),ih (fun t ht=>h t (List.mem_cons_of_mem _ ht)),Rat.add_zero]
theorem cf_at {l:List T} (h:Sorted l) {t:T} (ht:t∈l):cf l t.i t.j=t.c:=by
 induction l with
 | nil=>cases ht
 | cons y r ih=>
  unfold Sorted at h
  rw [List.pairwise_cons]at h
  simp only [cf]
  rcases List.mem_cons.1 ht with e|e
  ·subst e
   rw [if_pos ⟨rfl,rfl⟩,cf_below (fun z hz e=>ltT_apart (h.1 z hz) ⟨e.1.symm,e.2.symm⟩),Rat.add_zero]
  ·rw [if_neg (ltT_apart (h.1 t e)),Rat.zero_add]
   exact ih h.2 e
theorem nf_unique {l m:List T} (hl:Nf l) (hm:Nf m) (h:∀i j,cf l i j=cf m i j):l=m:=by
 have sub:∀ {l m:List T},Nf l→Nf m→(∀i j,cf l i j=cf m i j)→∀t∈l,t∈m:=by
  intro l m hl hm h t ht
  have h1:=cf_at hl.sorted ht
  rw [h]at h1
  by_cases e:∃y∈m,y.i=t.i∧y.j=t.j
  ·obtain ⟨y,hy,e1,e2⟩:=e
   have h2:=cf_at hm.sorted hy
   rw [e1,e2,h1]at h2
   have:t=y:=by cases t;cases y;simp_all
   rw [this];exact hy
  ·rw [cf_below (fun y hy k=>e ⟨y,hy,k⟩)]at h1
   exact absurd h1.symm (hl.nz t ht)
 have nd:∀ {l:List T},Sorted l→l.Nodup:=fun h=>List.Pairwise.imp (S:=fun a b=>a≠b) (fun {a b} (k:ltT a b) (e:a=b)=>ltT_irrefl b (e ▸ k)) h
 exact sorted_unique hl.sorted hm.sorted ((List.perm_ext_iff_of_nodup (nd hl.sorted) (nd hm.sorted)).2 fun t=>⟨sub hl hm h t,sub hm hl (fun i j=>(h i j).symm) t⟩)
theorem gat_nf {l:List T} (h:Nf l):gat l=l:=nf_unique (nf_gat h.ok) h (cf_gat l)
theorem gat_congr {l m:List T} (hl:∀t∈l,t.ok) (hm:∀t∈m,t.ok) (h:∀i j,cf l i j=cf m i j):gat l=gat m:=
 nf_unique (nf_gat hl) (nf_gat hm) fun i j=>by rw [cf_gat,cf_gat,h]
end Gus
namespace Go.Proofs.YtfgmdhjmgdccdaaGreat
open Go.RowKit
def Sh (w:World) (g:Nat) (t:TypeId) (N:Nat):Prop:= ∃cur:Array Value,w.heap[g]? =some (.cells cur t (0,0))∧cur.size=N
section
variable {w w':World} {g B N:Nat} {t:TypeId}
theorem Sh.lt (h:Sh w g t N):g<w.heap.size:=by obtain ⟨cur,hc,_⟩:=h;exact(Array.getElem?_eq_some_iff.1 hc).1
theorem Sh.gr (h:Sh w g t N) (hg:Gr B w w') (hB:g<B):Sh w' g t N:=by obtain ⟨cur,hc,hs⟩:=h;exact⟨cur,(hg.block g hB).trans hc,hs⟩
theorem Sh.set (h:Sh w g t N) (p:Addr) (v:Value):Sh (w.setCell p v) g t N:=by
 obtain ⟨cur,hc,hs⟩:=h
 by_cases e:p.block=g
 ·subst e
  refine⟨if p.spot.isSome then cur else cur.setIfInBounds p.off v,?_,by split<;>simpa using hs⟩
  simp [World.setCell,Array.getElem?_modify,hc]
 ·exact⟨cur,(Below.heap_setCell _ _ _ _ (fun e'=>e e'.symm)).trans hc,hs⟩
theorem Sh.sets (h:Sh w g t N) (b:Nat):∀(vs:List Value) (o:Nat),Sh (w.setCells b o vs) g t N:=by
 intro vs
 induction vs generalizing w with
 | nil=>intro o;exact h
 | cons v r ih=>intro o;exact ih (h.set _ _) _
theorem Sh.alloc (h:Sh w g t N) (o:Obj):Sh (w.alloc o) g t N:=h.gr (B:=w.heap.size) ((Gr.refl _ _).alloc (Nat.le_refl _) o) h.lt
theorem Sh.frozen (h:Sh w g t N) (o:Nat):w.frozen? ⟨g,o,none⟩=false:=by
 obtain ⟨cur,hc,_⟩:=h
 simp [World.frozen?,hc]
theorem Sh.some (h:Sh w g t N) {o:Nat} (ho:o<N):(w.cell? ⟨g,o,none⟩).isSome=true:=by
 obtain ⟨cur,hc,hs⟩:=h
 simp [World.cell?,hc,hs,ho]
theorem Sh.of_gr (h:Sh w g t N) (hg:Gr w.heap.size w w'):Sh w' g t N:=h.gr hg h.lt
end
def RC {α:Type} (enc:α→List Value) (k:Nat) (w:World) (g:Nat) (l:List α):Prop:=
 ∀j (hj:j<l.length) i u,(enc l[j])[i]? =some u→w.cell? ⟨g,j*k+i,none⟩=some u
def SL {α:Type} (enc:α→List Value) (k:Nat) (t:TypeId) (w:World) (B:Nat) (v:Value) (l:List α):Prop:=
 (v= .slice none 0 0∧l= [])∨∃g cap,v= .slice (some ⟨g,0,none⟩) l.length cap∧B≤g∧l.length≤cap∧cap≤maxLen∧Sh w g t (cap*k)∧RC enc k w g l
section
variable {α:Type} {enc:α→List Value} {k:Nat} {t:TypeId} {w w':World} {B C g:Nat} {v:Value} {l l':List α}
theorem RC.gr (h:RC enc k w g l) (hg:Gr C w w') (hC:g<C):RC enc k w' g l:=fun j hj i u hu=>(hg.cell (p:=⟨g,j*k+i,none⟩) hC).trans (h j hj i u hu)
theorem RC.take (h:RC enc k w g l) (n:Nat):RC enc k w g (l.take n):=fun j hj i u hu=>h j (by simp at hj;omega) i u (by rw [List.getElem_take]at hu;exact hu)
theorem RC.load (h:RC enc k w g l) (hk:∀x,(enc x).length=k) (P:Program) {j:Nat} (hj:j<l.length):Sem.run P (loadCellsFrom ⟨g,j*k,none⟩ 0 k #[]) w= .ok (enc l[j]).toArray w:=
 run_loadCellsFrom_list P _ _ (enc l[j]) k (hk _) fun i u hu=>by rw [Addr.add_lit];exact h j hj i u hu
theorem SL.nil:SL enc k t w B (.slice none 0 0) []:= .inl ⟨rfl,rfl⟩
theorem SL.gr (h:SL enc k t w B v l) (hg:Gr w.heap.size w w'):SL enc k t w' B v l:=by
 rcases h with h|⟨g,cap,h1,h2,h3,h4,h5,h6⟩
 ·exact .inl h
 ·exact .inr ⟨g,cap,h1,h2,h3,h4,h5.of_gr hg,h6.gr hg h5.lt⟩
theorem SL.mono (h:SL enc k t w B v l) (hB:C≤B):SL enc k t w C v l:=by
 rcases h with h|⟨g,cap,h1,h2,h3⟩
 ·exact .inl h
 ·exact .inr ⟨g,cap,h1,by omega,h3⟩
theorem SL.len (h:SL enc k t w B v l):l.length≤maxLen:=by
 rcases h with⟨_,rfl⟩|⟨g,cap,_,_,h3,h4,_⟩
 ·simp
 ·omega
theorem SL.block (h:SL enc k t w B v l) (hl:l≠ []):∃g cap,v= .slice (some ⟨g,0,none⟩) l.length cap∧B≤g∧l.length≤cap∧cap≤maxLen∧Sh w g t (cap*k)∧RC enc k w g l:=by
 rcases h with⟨_,h⟩|h
 ·exact absurd h hl
 ·exact h
theorem SL.at (h:SL enc k t w B v l):∃a cap,v= .slice a l.length cap:=by
 rcases h with⟨rfl,rfl⟩|⟨g,cap,h,_⟩
 ·exact⟨_,_,rfl⟩
 ·exact⟨_,_,h⟩
theorem flat_get (hk:∀x,(enc x).length=k):∀(l:List α) (j:Nat) (hj:j<l.length) (i:Nat),i<k→(l.flatMap enc)[j*k+i]? =(enc l[j])[i]?
 | [],_,hj,_,_=>absurd hj (Nat.not_lt_zero _)
 | x :: r,j,hj,i,hi=>by
  rw [List.flatMap_cons]
  cases j with
  | zero=>rw [Nat.zero_mul,Nat.zero_add,List.getElem?_append_left (by rw [hk];exact hi)];rfl
  | succ j=>
   rw [List.getElem?_append_right (by rw [hk,Nat.add_mul];omega),hk,show(j+1)*k+i - k=j*k+i by rw [Nat.add_mul];omega,flat_get hk r j (by simpa using hj) i hi]
   rfl
theorem flat_len (hk:∀x,(enc x).length=k):∀l:List α,(l.flatMap enc).length=l.length*k
 | []=>by simp
 | x :: r=>by rw [List.flatMap_cons,List.length_append,hk,flat_len hk r,List.length_cons,Nat.add_mul];omega
theorem RC.of_flat (hk:∀x,(enc x).length=k) (h:∀i u,(l.flatMap enc)[i]? =some u→w.cell? ⟨g,i,none⟩=some u):RC enc k w g l:=fun j hj i u hu=>
 h _ _ ((flat_get hk l j hj i (by have:=(List.getElem?_eq_some_iff.1 hu).1;rwa [hk]at this)).trans hu)
theorem RC.flat (hk:∀x,(enc x).length=k) (h:RC enc k w g l) (i:Nat) (u:Value) (hu:(l.flatMap enc)[i]? =some u):w.cell? ⟨g,i,none⟩=some u:=by
 have hi:=(List.getElem?_eq_some_iff.1 hu).1
 rw [flat_len hk]at hi
 have k0:0<k:=by rcases Nat.eq_zero_or_pos k with e|e;· subst e;simp at hi
                 ·exact e
 have hj:i / k<l.length:=Nat.div_lt_of_lt_mul (by rwa [Nat.mul_comm]at hi)
 have hm:=Nat.mod_lt i k0
 have e:i / k*k+i % k=i:=by rw [Nat.mul_comm];exact Nat.div_add_mod i k
 have:=flat_get hk l (i / k) hj (i % k) hm
 rw [e,hu]at this
 have:=h (i / k) hj (i % k) u this.symm
 rwa [e]at this
theorem SL.own (h:SL enc k t w B v l) (hk:∀x,(enc x).length=k):w.ownsRow B t k v l.length (l.flatMap enc):=by
 refine⟨flat_len hk l,?_⟩
 rcases h with⟨h,rfl⟩|⟨g,cap,h1,h2,h3,h4,⟨cur,hc,hs⟩,h6⟩
 ·exact .inl ⟨h,rfl⟩
 ·refine .inr ⟨g,cap,cur,h1,h2,hc,h3,h4,hs,?_⟩
  have hle:l.length*k≤cap*k:=Nat.mul_le_mul_right k h3
  refine List.ext_getElem? fun i=>?_
  by_cases hi:i<l.length*k
  ·rw [List.getElem?_take_of_lt hi]
   have hf:(l.flatMap enc)[i]? =some ((l.flatMap enc)[i]'(by rw [flat_len hk];exact hi)):=List.getElem?_eq_getElem _
   have:=RC.flat hk h6 i _ hf
   rw [hf,←this]
   simp [World.cell?,hc]
  ·rw [List.getElem?_take_eq_none (by omega),List.getElem?_eq_none (by rw [flat_len hk];omega)]
theorem SL.of_own (h:w.ownsRow B t k v l.length (l.flatMap enc)) (hk:∀x,(enc x).length=k):SL enc k t w B v l:=by
 rcases h.2 with⟨h1,h2⟩|⟨g,cap,cur,h1,h2,hc,h3,h4,hs,ht⟩
 ·exact .inl ⟨h1,List.eq_nil_of_length_eq_zero h2⟩
 ·refine .inr ⟨g,cap,h1,h2,h3,h4,⟨cur,hc,hs⟩,RC.of_flat hk fun i u hu=>?_⟩
  have hi:=(List.getElem?_eq_some_iff.1 hu).1
  rw [flat_len hk]at hi
  rw [←ht,List.getElem?_take_of_lt hi]at hu
  simp [World.cell?,hc]
  simpa using hu
theorem SL.new (hk:∀x,(enc x).length=k) (cs:List Value) (hcs:cs=l.flatMap enc) (hB:B≤w.heap.size) (hl:l.length≤maxLen):SL enc k t (w.alloc (.cells cs.toArray t)) B (.slice (some ⟨w.heap.size,0,none⟩) l.length l.length) l:=by
 subst hcs
 refine .inr ⟨_,_,rfl,hB,Nat.le_refl _,hl,⟨_,heap_alloc_new w _,by simp [←flat_len hk]⟩,RC.of_flat hk fun i u hu=>?_⟩
 simp [go_sem,hu]
theorem RC.put (h:RC enc k w g l) (hk:∀x,(enc x).length=k) {N:Nat} (hs:Sh w g t N) (hN:l.length*k≤N) {j:Nat} (hj:j<l.length) (x:α) (o:Nat) (cs:List Value) (hx:enc x=(enc l[j]).take o++cs++(enc l[j]).drop (o+cs.length)) (ho:o+cs.length≤k):
  RC enc k (w.setCells g (j*k+o) cs) g (l.set j x):=by
 intro j' hj' i u hu
 have hj2:j'<l.length:=by simpa using hj'
 have hik:i<k:=by have:=(List.getElem?_eq_some_iff.1 hu).1;rwa [hk]at this
 by_cases e:j'=j
 ·subst e
  rw [List.getElem_set_self,hx]at hu
  by_cases h1:o≤i∧i<o+cs.length
  ·rw [List.append_assoc,List.getElem?_append_right (by rw [List.length_take,hk];omega),List.length_take,hk,Nat.min_eq_left (by omega),List.getElem?_append_left (by omega)]at hu
   have hall:∀q,q<cs.length→(w.cell? ⟨g,j'*k+o+q,none⟩).isSome=true:=fun q hq=>hs.some (by
    have:=Nat.mul_le_mul_right k (show j'+1≤l.length from hj);rw [Nat.add_mul]at this;omega)
   have:=World.cell?_setCells_in g cs (j'*k+o) w hall (i - o) (by omega)
   rw [show j'*k+o+(i - o)=j'*k+i by omega]at this
   rw [this]
   rw [List.getElem?_eq_getElem (by omega)]at hu
   exact hu
  ·rw [World.cell?_setCells_out g cs _ w _ (fun _ _=>by show j'*k+i< _∨_≤j'*k+i;omega)]
   refine h j' hj i u ?_
   by_cases h2:i<o
   ·rw [List.append_assoc,List.getElem?_append_left (by rw [List.length_take,hk];omega),List.getElem?_take_of_lt h2]at hu
    exact hu
   ·rw [List.getElem?_append_right (by rw [List.length_append,List.length_take,hk];omega),List.length_append,List.length_take,hk,Nat.min_eq_left (by omega),List.getElem?_drop,show o+cs.length+(i - (o+cs.length))=i by omega]at hu
    exact hu
 ·rw [List.getElem_set_ne (fun e'=>e e'.symm)]at hu
  rw [World.cell?_setCells_out g cs _ w _ (fun _ _=>by
   show j'*k+i< _∨_≤j'*k+i
   rcases Nat.lt_or_gt_of_ne e with e1|e1
   ·have:=Nat.mul_le_mul_right k (show j'+1≤j from e1);rw [Nat.add_mul]at this;omega
   ·have:=Nat.mul_le_mul_right k (show j+1≤j' from e1);rw [Nat.add_mul]at this;omega)]
  exact h j' hj2 i u hu
theorem SL.put (h:SL enc k t w B (.slice (some ⟨g,0,none⟩) l.length C) l) (hk:∀x,(enc x).length=k) {j:Nat} (hj:j<l.length) (x:α) (o:Nat) (cs:List Value) (hx:enc x=(enc l[j]).take o++cs++(enc l[j]).drop (o+cs.length)) (ho:o+cs.length≤k):
  SL enc k t (w.setCells g (j*k+o) cs) B (.slice (some ⟨g,0,none⟩) l.length C) (l.set j x):=by
 rcases h with⟨h,_⟩|⟨g',cap,h1,h2,h3,h4,h5,h6⟩
 ·cases h
 ·cases h1
  exact .inr ⟨g,C,by simp,h2,by simpa using h3,h4,h5.sets _ _ _,h6.put hk h5 (Nat.mul_le_mul_right k h3) hj x o cs hx ho⟩
end
section
variable {α:Type} [Inhabited α] {enc:α→List Value} {k:Nat} {t:TypeId} {w w':World} {B C g:Nat} {v:Value} {l l':List α}
theorem RC.holds (h:RC enc k w g l) (hk:∀x,(enc x).length=k) (hf:∀o,w.frozen? ⟨g,o,none⟩=false):Sort.HoldsK enc k w g 0 l.toArray:=by
 intro q hq
 rw [Sort.size_flatK]at hq
 simp only [List.size_toArray]at hq
 have k0:0<k:=by rcases Nat.eq_zero_or_pos k with e|e;· subst e;simp at hq
                 ·exact e
 have hj:q / k<l.length:=Nat.div_lt_of_lt_mul (by rwa [Nat.mul_comm]at hq)
 have hm:=Nat.mod_lt q k0
 have e:q / k*k+q % k=q:=by rw [Nat.mul_comm];exact Nat.div_add_mod q k
 rw [Nat.zero_add]
 refine⟨?_,hf q⟩
 have h1:=h (q / k) hj (q % k) ((enc l[q / k])[q % k]'(by rw [hk];exact hm)) (List.getElem?_eq_getElem _)
 rw [e]at h1
 rw [h1,Sort.get_flatK _ _ _ _ (by simpa using hq)]
 simp [hj,hk,hm]
theorem RC.of_holds (h:Sort.HoldsK enc k w g 0 l.toArray) (hk:∀x,(enc x).length=k):RC enc k w g l:=by
 intro j hj i u hu
 have hi:=(List.getElem?_eq_some_iff.1 hu).1
 rw [hk]at hi
 have:=(h.cell (i:=j) (c:=i) (by simpa using hj) hi).1
 rw [Nat.zero_add]at this
 rw [this]
 simp only [List.getElem!_toArray,List.getElem!_eq_getElem?_getD,List.getElem?_eq_getElem hj,Option.getD_some,hu]
theorem Sh.sorted {N:Nat} (h:Sh w g t N) (n:Nat) (d:Array α) (os:Array Obj):Sh (sortWorldK enc k w g 0 n d os) g t N:=by
 obtain ⟨cur,hc,hs⟩:=h
 have hg:g<w.heap.size:=(Array.getElem?_eq_some_iff.1 hc).1
 refine⟨Sort.putCells id 0 (Sort.flatK enc k d) cur,?_,by simp [Sort.putCells,hs]⟩
 unfold sortWorldK Sort.putRowK
 rw [Sort.heap_grow_old _ _ (by simpa using hg)]
 simp [Sort.putRow,Sort.mapBlock,Sort.ahead,Array.getElem?_modify,hc,Sort.onCells]
theorem Gr.sorted (hg:B≤g) (hl:g<w.heap.size) (n:Nat) (d:Array α) (os:Array Obj):Gr B w (sortWorldK enc k w g 0 n d os):=by
 refine⟨rfl,rfl,rfl,by simp [sortWorldK,Sort.putRowK,Sort.putRow,Sort.mapBlock,Sort.ahead,Sort.grow],by simp [sortWorldK,Sort.putRowK,Sort.putRow,Sort.mapBlock,Sort.ahead,Sort.grow],fun i hi=>?_⟩
 unfold sortWorldK Sort.putRowK
 rw [Sort.heap_grow_old _ _ (by simp;omega)]
 have:g≠i:=by omega
 simp [Sort.putRow,Sort.mapBlock,Sort.ahead,Array.getElem?_modify,this]
theorem SL.sorted (h:SL enc k t w B (.slice (some ⟨g,0,none⟩) l.length C) l) (hk:∀x,(enc x).length=k) (n:Nat) (d:Array α) (hd:d.size=l.length) (os:Array Obj):
  SL enc k t (sortWorldK enc k w g 0 n d os) B (.slice (some ⟨g,0,none⟩) l.length C) d.toList:=by
 rcases h with⟨h,_⟩|⟨g',cap,h1,h2,h3,h4,h5,h6⟩
 ·cases h
 ·cases h1
  refine .inr ⟨g,C,by simp [hd],h2,by simpa [hd] using h3,h4,h5.sorted n d os,RC.of_holds ?_ hk⟩
  rw [Array.toArray_toList]
  unfold sortWorldK
  have h7:=RC.holds h6 hk h5.frozen
  exact Sort.holdsK_grow enc k _ os g 0 d (by simpa [Sort.putRowK,Sort.putRow,Sort.mapBlock,Sort.ahead] using h5.lt) (Sort.holdsK_putRowK enc k _ g 0 l.toArray d (Sort.holdsK_ahead enc k w n g 0 _ h7) (by simpa using hd))
end
end Go.Proofs.YtfgmdhjmgdccdaaGreat
namespace Go.Proofs.YtfgmdhjmgdccdaaGreat
open Go.RowKit Gus Go.Maps
abbrev f3V (n0:Int) (m0:Nat) (n1:Int) (m1:Nat) (n2:Int) (m2:Nat):Value:= .agg #[nA n0,nB n0,nC n0,nD m0,nE m0,nA n1,nB n1,nC n1,nD m1,nE m1,nA n2,nB n2,nC n2,nD m2,nE m2]
abbrev k3V (a b c:Rat):Value:=f3V a.num (fm a) b.num (fm b) c.num (fm c)
def idxP {α:Type} (p:α→Bool) (l:List α):Int:=match l.findIdx? p with|some i=>(i:Int)|none=> -1
def Tells {α:Type} (enc:α→Value) (F:FuncId) (cb:Array Value) (p:α→Bool) (w:World):Prop:=
 (∀args w,(callFunc F args).run Tryz.prog w= .ok (.enter F args) w)∧∀W,Gr w.heap.size w W→∀x,Calls Tryz.prog F (#[enc x]++cb) W (Ret W (.bool (p x)))
theorem run_clear_rows {P:Program} (w:World) (t e ty:TypeId) (z:Value) (ht:P.underlying t=some (.slice e)) (hv:∀w,(zeroValue e).run P w= .ok z w) (k:Nat) (hz:z.cells.size=k) (h1:∀v∈z.cells,v.oneCell'=true) (b o n c:Nat) (hn:0<n) (hk:0<k)
  (hc:∀j,j<n*k→(w.cell? ⟨b,o+j,none⟩).isSome=true) (hf:∀j,j<n*k→w.frozen? ⟨b,o+j,none⟩=false):
  (Builtin.clear_ #[t] ty #[.slice (some ⟨b,o,none⟩) n c]).run P w= .ok (.tuple #[]) (w.setCells b o (Builtin.zeroCells z.cells n).toList):=by
 have hl:(Builtin.zeroCells z.cells n).toList.length=n*k:=by rw [Array.length_toList,size_zeroCells,hz]
 have hm:∀v∈(Builtin.zeroCells z.cells n).toList,v.oneCell'=true:=by
  intro v hv'
  simp only [Builtin.zeroCells,Array.mem_toList_iff,Array.mem_map,Array.mem_range]at hv'
  obtain ⟨i,hi,rfl⟩:=hv'
  have h0:i % z.cells.size<z.cells.size:=Nat.mod_lt _ (by omega)
  rw [getElem!_pos z.cells _ h0]
  exact h1 _ (Array.getElem_mem h0)
 have hst:=run_storeCells_cells (P:=P) b o (Builtin.zeroCells z.cells n).toList 0 w (by simpa [hl] using hc) (by simpa [hl] using hf) hm
 simp only [Nat.add_zero]at hst
 obtain ⟨m,rfl⟩:∃m,n=m+1:=⟨n - 1,by omega⟩
 simp [Builtin.clear_,run_underlying ht,hv,hst]
theorem Gr.sets {B g:Nat} {a:World} (hg:B≤g):∀(vs:List Value) (o:Nat) {w:World},Gr B a w→Gr B a (w.setCells g o vs)
 | [],_,_,h=>h
 | _ :: r,o,_,h=>Gr.sets hg r (o+1) (h.setCell hg _)
theorem Gr.grown {w w':World} (h:Gr w.heap.size w w'):∃q os,w'=Sort.grow (w.drewN q) os:=by
 refine⟨w'.drawn - w.drawn,w'.heap.extract w.heap.size w'.heap.size,?_⟩
 have hh:w'.heap=w.heap++w'.heap.extract w.heap.size w'.heap.size:=by
  apply Array.ext_getElem?
  intro i
  by_cases hi:i<w.heap.size
  ·rw [Array.getElem?_append_left hi,h.block i hi]
  ·rw [Array.getElem?_append_right (by omega),Array.getElem?_extract]
   have:=h.size
   by_cases h2:i<w'.heap.size
   ·rw [if_pos (by omega),show w.heap.size+(i - w.heap.size)=i by omega]
   ·rw [if_neg (by omega),Array.getElem?_eq_none (by omega)]
 have hd:=h.drawn
 cases w with|mk heap tape drawn os output=>cases w' with|mk heap' tape' drawn' os' output'=>
 have h1:=h.os;have h2:=h.tape;have h3:=h.output
 simp only at h1 h2 h3 hh hd
 subst h1 h2 h3
 simp only [Sort.grow,World.drewN]
 rw [←hh,Nat.add_sub_cancel' hd]
def Orders {α:Type} (enc:α→Value) (F:FuncId) (cb:Array Value) (cf:α→α→Int):Prop:=
 (∀args w,(callFunc F args).run Tryz.prog w= .ok (.enter F args) w)∧∀(W:World) x y,Calls Tryz.prog F (#[enc x,enc y]++cb) W (Ret W (.int .i64 (cf x y)))
theorem Orders.lays {α:Type} [Inhabited α] {enc:α→List Value} {k:Nat} {F:FuncId} {cb:Array Value} {cf:α→α→Int} (h:Orders (fun x=> .agg (enc x).toArray) F cb cf) (blk off size:Nat) (w:World):CmpLays Tryz.prog F cb enc k cf blk off size w:=
 fun _ _ _ _ x y=>(h.2 _ x y).mono fun _ _ ⟨h1,h2⟩=>⟨h1,h2.grown⟩
structure Kp (w w':World) (row:Option Nat):Prop where
 g:w.grownBy w' row
 d:w.drawn≤w'.drawn
section
variable {w w' w2:World} {row:Option Nat} {B:Nat}
theorem Kp.gr (h:Kp w w' row) (hB:∀b,row=some b→B≤b) (hw:B≤w.heap.size):Gr B w w':=
 ⟨h.g.os,h.g.tape,h.g.output,h.d,h.g.size,fun k hk=>h.g.block k (by omega) (fun e=>by have:=hB k e.symm;omega)⟩
theorem Kp.alloc (w:World) (o:Obj):Kp w (w.alloc o) none:=⟨World.grownBy_alloc w o none,Nat.le_refl _⟩
theorem Kp.cell (h:Kp w w' row) {b o:Nat} (hb:b<w.heap.size) (hne:some b≠row):w'.cell? ⟨b,o,none⟩=w.cell? ⟨b,o,none⟩:=World.cell?_of_block (a:=⟨b,o,none⟩) (h.g.block b hb hne)
theorem Kp.sh {g N:Nat} {t:TypeId} (h:Kp w w' row) (hS:Sh w g t N) (hne:some g≠row):Sh w' g t N:=by
 obtain ⟨cur,hc,hs⟩:=hS
 exact⟨cur,(h.g.block g (Array.getElem?_eq_some_iff.1 hc).1 hne).trans hc,hs⟩
theorem Kp.rc {α:Type} {enc:α→List Value} {k g:Nat} {l:List α} (h:Kp w w' row) (hR:RC enc k w g l) (hg:g<w.heap.size) (hne:some g≠row):RC enc k w' g l:=fun j hj i u hu=>(h.cell hg hne).trans (hR j hj i u hu)
theorem Kp.sl {α:Type} {enc:α→List Value} {k:Nat} {t:TypeId} {v:Value} {l:List α} (h:Kp w w' row) (hS:SL enc k t w B v l) (hne:∀g,v.ownBlock=some g→some g≠row):SL enc k t w' B v l:=by
 rcases hS with hS|⟨g,cap,h1,h2,h3,h4,h5,h6⟩
 ·exact .inl hS
 ·have:=hne g (by rw [h1];rfl)
  exact .inr ⟨g,cap,h1,h2,h3,h4,h.sh h5 this,h.rc h6 h5.lt this⟩
end
section
variable {P:Program} (w:World) {ops:Array Oper} {rest:List Oper} {o:Oper} {a:Act} {Q:Exit→Act→World→Prop}
theorem wpList_appS {α:Type} {enc:α→List Value} {k:Nat} {t:TypeId} (hg:o.guard=none) (s x:Operand) (ts:TypeId) (hop:o.op= .call {callee:= .builtin .append,args:= #[s,x],argTypes:= #[ts,ts]})
  (B:Nat) (i:TypeInfo) (z:Value) (bytes:Nat) (ht:P.underlying ts=some (.slice t)) (hi:P.info? t=some i) (hz:i.zero=some z) (hsize:i.size=k) (hby:i.bytes=bytes) (hzs:z.cells.size=k) (hk0:0<k) (hk:∀x,(enc x).length=k) (h1:∀x,∀v∈enc x,v.oneCell'=true)
  (v:Value) (l:List α) (hs:a.eval s=v) (hS:SL enc k t w B v l) (gx c:Nat) (l2:List α) (n2:Nat) (hn2:n2=l2.length) (hx:a.eval x= .slice (some ⟨gx,0,none⟩) n2 c) (hR:RC enc k w gx l2) (h63:l.length+l2.length≤maxLen) (hbytes:(l.length+l2.length)*bytes≤140737488355328) (hB:B≤w.heap.size)
  (h:∀v' w',SL enc k t w' B v' (l++l2)→Kp w w' v.ownBlock→(v'.ownBlock=v.ownBlock∨v'.ownBlock=some w.heap.size)→wpList P ops Q rest (a.put o.dst v') w'):wpList P ops Q (o :: rest) a w:=by
 subst hn2
 refine wpList_app w hg s x ts hop B t i z k bytes ht hi hz hsize hby hzs hk0 v l.length (l.flatMap enc) hs (hS.own hk) ⟨gx,0,none⟩ l2.length c (l2.flatMap enc) hx (flat_len hk l2) (fun j u hj=>by rw [Addr.add_lit,Nat.zero_add];exact hR.flat hk j u hj) (fun u hu=>by
  obtain ⟨y,_,hy⟩:=List.mem_flatMap.1 hu
  exact h1 y u hy) h63 hbytes hB (fun v' w' hap=>h v' w' (SL.of_own ?_ hk) ⟨hap.by_,hap.drawn⟩ hap.at_)
 rw [List.length_append,List.flatMap_append]
 exact hap.own
end
def klT (i j:Nat):Lit:= .string (keyBytes [.int .i64 (i:Int),.int .i64 (j:Int)])
theorem zeroInt (w:World):(zeroValue 3).run Tryz.prog w= .ok (.int .i64 0) w:=Tryz.zeroValue3 w
theorem SL.new' {α:Type} {enc:α→List Value} {k:Nat} {t:TypeId} {w:World} {B:Nat} {l:List α} {g n:Nat} (hk:∀x,(enc x).length=k) (cs:List Value) (hcs:cs=l.flatMap enc) (hg:g=w.heap.size) (hB:B≤g) (hl:l.length≤maxLen) (hn:n=l.length):SL enc k t (w.alloc (.cells cs.toArray t)) B (.slice (some ⟨g,0,none⟩) n n) l:=by
 subst hg hn
 exact SL.new hk cs hcs hB hl
theorem RC.new1 {α:Type} {enc:α→List Value} {k:Nat} {t:TypeId} {w:World} {x:α} {cs:List Value} (h:enc x=cs):RC enc k (w.alloc (.cells cs.toArray t)) w.heap.size [x]:=by
 subst h
 intro j hj i u hu
 simp only [List.length_singleton]at hj
 obtain rfl:j=0:=by omega
 simp only [List.getElem_cons_zero]at hu
 simp [go_sem,hu]
theorem SL.own_ge {α:Type} {enc:α→List Value} {k:Nat} {t:TypeId} {w:World} {B g:Nat} {v:Value} {l:List α} (h:SL enc k t w B v l) (hg:v.ownBlock=some g):B≤g:=by
 rcases h with⟨rfl,_⟩|⟨g',cap,rfl,h2,_⟩
 ·cases hg
 ·cases hg;exact h2
theorem SL.far {α:Type} {enc:α→List Value} {k:Nat} {t:TypeId} {w:World} {B:Nat} {v:Value} {l:List α} (h:SL enc k t w B v l) {p:Addr} (hp:p.block<B) (x:Value):SL enc k t (w.setCell p x) B v l:=by
 rcases h with h|⟨g,cap,h1,h2,h3,h4,h5,h6⟩
 ·exact .inl h
 ·refine .inr ⟨g,cap,h1,h2,h3,h4,h5.set p x,fun j hj i u hu=>?_⟩
  have hb:(w.setCell p x).heap[g]? =w.heap[g]? :=Below.heap_setCell _ _ _ _ (by omega)
  exact(World.cell?_of_block (a:=⟨g,j*k+i,none⟩) hb).trans (h6 j hj i u hu)
def hasT (t:Nat×Nat×Nat) (a:Nat):Bool:=([(t.1:Int),(t.2.1:Int),(t.2.2:Int)]).contains (a:Int)
theorem contains3 (t:Nat×Nat×Nat) (a:Nat) (g o c:Nat) (w:World) (h0:w.cell? ⟨g,o,none⟩=some (.int .i64 (t.1:Int))) (h1:w.cell? ⟨g,o+1,none⟩=some (.int .i64 (t.2.1:Int))) (h2:w.cell? ⟨g,o+2,none⟩=some (.int .i64 (t.2.2:Int))):
  Calls Tryz.prog 139 #[.slice (some ⟨g,o,none⟩) 3 c,.int .i64 (a:Int)] w (Ret w (.bool (hasT t a))):=
 (Tryz.slices_Contains_int g o 3 c [(t.1:Int),(t.2.1:Int),(t.2.2:Int)] (a:Int) w (by simp) (by omega) (fun j hj=>by
  match j,hj with
  | 0,_=>simpa using h0
  | 1,_=>simpa using h1
  | 2,_=>simpa using h2)).mono fun _ _ ⟨e,hw⟩=>⟨e,hw ▸ Gr.refl _ _⟩
end Go.Proofs.YtfgmdhjmgdccdaaGreat
namespace Go.Proofs.YtfgmdhjmgdccdaaGreat
open Go.RowKit Gus
abbrev triC (t:Nat×Nat×Nat):List Value:= [.int .i64 (t.1:Int),.int .i64 (t.2.1:Int),.int .i64 (t.2.2:Int)]
abbrev triV (t:Nat×Nat×Nat):Value:= .agg (triC t).toArray
def goodT (n:Nat) (t:Nat×Nat×Nat):Prop:=t.1<n∧t.2.1<n∧t.2.2<n∧t.1≠t.2.1∧t.2.1≠t.2.2∧t.2.2≠t.1
instance (n:Nat) (t:Nat×Nat×Nat):Decidable (goodT n t):=inferInstanceAs (Decidable (_∧_))
set_option maxRecDepth 20000 in
set_option maxHeartbeats 4000000 in
theorem point_raw {p m:Int} (h0:0≤p) (h1:p<m) (w:World):Calls Tryz.prog 41 #[.int .i64 p,.int .i64 m] w (Ret w (.bool true)):=by
 go_enter Tryz.func41,Tryz.ntmps41
 go_wp2
 go_ret
 exact⟨rfl,by exact gzz⟩
set_option maxRecDepth 20000 in
set_option maxHeartbeats 4000000 in
theorem good_raw {i j k m:Int} {g:Nat} (h1:∀w,Calls Tryz.prog 41 #[.int .i64 i,.int .i64 m] w (Ret w (.bool true))) (h2:∀w,Calls Tryz.prog 41 #[.int .i64 j,.int .i64 m] w (Ret w (.bool true))) (h3:∀w,Calls Tryz.prog 41 #[.int .i64 k,.int .i64 m] w (Ret w (.bool true)))
  (e1:(i == j)=false) (e2:(j == k)=false) (e3:(k == i)=false) (w:World) (hg:g<w.heap.size) (hc:w.cell? ⟨g,0,none⟩=some (.int .i64 m)):
  Calls Tryz.prog 109 #[.agg #[.int .i64 i,.int .i64 j,.int .i64 k],.pointer (some ⟨g,0,none⟩)] w (Ret w (.bool false)):=by
 have h1:=Lh h1
 have h2:=Lh h2
 have h3:=Lh h3
 have hg1:g<w.heap.size+1:=by omega
 go_enter Tryz.func109,Tryz.ntmps109
 go_wp2_with fail
 (refine rtt (h1.out _) fun w1 hsz1 hc1 hf1 HG1=>?_;(try simp at hsz1);have hy1_0:g<w1.heap.size:=(by omega);have hz1_0:w.heap.size<w1.heap.size:=(by omega))
 go_wp2_with fail
 (refine rtt (h2.out _) fun w2 hsz2 hc2 hf2 HG2=>?_;(try simp at hsz2);have hy2_0:g<w2.heap.size:=(by omega);have hz2_0:w.heap.size<w2.heap.size:=(by omega))
 go_wp2_with fail
 (refine rtt (h3.out _) fun w3 hsz3 hc3 hf3 HG3=>?_;(try simp at hsz3);have hy3_0:g<w3.heap.size:=(by omega);have hz3_0:w.heap.size<w3.heap.size:=(by omega))
 go_wp2
 go_ret
 exact⟨rfl,by exact gcc HG3 (gcc HG2 (gcc HG1 gzz))⟩
theorem ms_good (t:Nat×Nat×Nat) (n g:Nat) (h:goodT n t) (w:World) (hg:g<w.heap.size) (hc:w.cell? ⟨g,0,none⟩=some (.int .i64 (n:Int))):Calls Tryz.prog 109 #[triV t,.pointer (some ⟨g,0,none⟩)] w (Ret w (.bool false)):=by
 obtain ⟨a,b,c,d,e,f⟩:=h
 exact good_raw (fun w=>point_raw (by omega) (by omega) w) (fun w=>point_raw (by omega) (by omega) w) (fun w=>point_raw (by omega) (by omega) w) (by simp;omega) (by simp;omega) (by simp;omega) w hg hc
end Go.Proofs.YtfgmdhjmgdccdaaGreat
