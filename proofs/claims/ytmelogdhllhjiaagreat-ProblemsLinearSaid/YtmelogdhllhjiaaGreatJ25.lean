/-
  Part 25 of the proof: MeshG Square.
-/
import Derived.Test.YtmelogdhllhjiaaGreatJ24
set_option linter.unusedSimpArgs false
set_option linter.unusedVariables false
namespace Go.Proofs.YtmelogdhllhjiaaGreat
open Go.RowKit Gus
set_option maxRecDepth 20000 in
set_option maxHeartbeats 4000000 in
theorem rimmed_raw (m:Msh) (rs:List Tri) (vp vt vs:Value) (w:World) (hM:MS w 0 vp vt vs m) (hR:∀W,MS W 0 vp vt vs m→Calls Tryz.prog 42 #[vp,vt] W (fun e w'=> ∃v,e= .returned v∧SR triC 3 87 w' 0 v rs∧Gr W.heap.size W w'))
  (hlm:m.sides.map (fun t=>(t.1,t.2.1))=rs.map (fun t=>(t.1,t.2.1))):Calls Tryz.prog 141 #[.agg #[vp,vt,vs]] w (Ret w (.bool true)):=by
 have HM:=Lib.hid hM
 have hR:=Lib.hid hR
 have HL:=Lib.hid hlm
 obtain ⟨hP,hT,hS⟩:=hM
 obtain ⟨ap,cp,rfl⟩:=hP.at
 obtain ⟨at_,ct,rfl⟩:=hT.at
 obtain ⟨as_,cs,rfl⟩:=hS.at
 clear hP hT hS hlm
 go_enter Tryz.func141,Tryz.ntmps141
 go_wp2_with fail
 refine wp_region_held_drew (S:=(fun w'=>w'.cell? ⟨w.heap.size,0,none⟩=some (.slice ap m.pts.length cp)∧w'.cell? ⟨w.heap.size,1,none⟩=some (.slice at_ m.tris.length ct)∧w'.cell? ⟨w.heap.size,2,none⟩=some (.slice as_ m.sides.length cs))) (by kernel_rfl) ?_ (fun hHeld=>?_)
 ·simp [go_sem, *]
 refine tk 0 (some 3) (.pointer (some ⟨w.heap.size,2,none⟩)) ?_
 try simp only [pS]
 refine tk 1 (some 4) (.slice as_ m.sides.length cs) ?_
 try simp only [pS]
 refine tk 2 (some 5) (.pointer (some ⟨w.heap.size,0,none⟩)) ?_
 try simp only [pS]
 refine tk 3 (some 6) (.slice ap m.pts.length cp) ?_
 try simp only [pS]
 refine tk 4 (some 7) (.pointer (some ⟨w.heap.size,1,none⟩)) ?_
 try simp only [pS]
 refine tk 5 (some 8) (.slice at_ m.tris.length ct) ?_
 try simp only [pS]
 refine rd 6 (fun K hK=>?_)
 go_simp
 (refine(hR.out _ (by exact HM.out.gr (by(with_reducible (repeat' (first|exact Gr.refl _ _|refine Gr.drew ?_|refine Gr.setCell ?_ ?_ _|refine Gr.alloc ?_ ?_ _|omega|(simp;done)|(simp;omega))))))).mono ?_;rintro e w2 ⟨v2,rfl,hS2,hg2⟩;(try (with_reducible replace hg2:=Gr.of_drew hg2));have hsz2:=hg2.size;(try simp at hsz2);have hz2_0:w.heap.size<w2.heap.size:=(by omega);obtain ⟨hc2,hf2⟩:=hg2.cells;have HG2:=Lib.hid hg2;clear hg2;have HS2:=Lib.hid hS2;clear hS2)
 (try dsimp only)
 refine hK.out _ _ ?_ (fun hH2=>?_)
 ·(first|exact trivial|((try dsimp only);simp [go_sem, *]))
 clear hK K hHeld
 try simp only [pS]
 refine rd 7 (fun K hK=>?_)
 go_simp
 (refine(same_Side m.sides rs _ v2 _ (by exact HM.out.2.2.gr (by(with_reducible (repeat' (first|exact Gr.refl _ _|refine Gr.drew ?_|refine Gr.setCell ?_ ?_ _|refine Gr.alloc ?_ ?_ _|refine Gr.trans ?_ (Gr.mono HG2.out ?_)|omega|(simp;done)|(simp;omega)))))) (by exact HS2.out.gr (by(with_reducible (repeat' (first|exact Gr.refl _ _|refine Gr.drew ?_|refine Gr.setCell ?_ ?_ _|refine Gr.alloc ?_ ?_ _|omega|(simp;done)|(simp;omega)))))) HL.out).mono ?_;rintro e w3 ⟨rfl,hg3⟩;(try (with_reducible replace hg3:=Gr.of_drew hg3));have hsz3:=hg3.size;(try simp at hsz3);have hz3_0:w.heap.size<w3.heap.size:=(by omega);obtain ⟨hc3,hf3⟩:=hg3.cells;have HG3:=Lib.hid hg3;clear hg3)
 (try dsimp only)
 refine hK.out _ _ ?_ (fun hH3=>?_)
 ·(first|exact trivial|((try dsimp only);simp [go_sem, *]))
 clear hK K hH2
 try simp only [pS]
 refine tk 8 (some 2) (.bool true) ?_
 try simp only [pS]
 refine wpAnyH_done (by kernel_rfl) ?_ _
 go_wp2
 go_ret
 exact⟨rfl,by(with_reducible (repeat' (first|exact Gr.refl _ _|refine Gr.drew ?_|refine Gr.setCell ?_ ?_ _|refine Gr.alloc ?_ ?_ _|refine Gr.trans ?_ (Gr.mono HG3.out ?_)|refine Gr.trans ?_ (Gr.mono HG2.out ?_)|omega|(simp;done)|(simp;omega))))⟩
end Go.Proofs.YtmelogdhllhjiaaGreat
namespace Go.Proofs.YtmelogdhllhjiaaGreat
open Go.RowKit Gus
theorem SR.off {α:Type} {enc:α→List Value} {k:Nat} {t:TypeId} {w:World} {B g n c:Nat} {l:List α} (h:SR enc k t w B (.slice (some ⟨g,0,none⟩) n c) l) {p:Addr} (hp:p.block≠g) (x:Value):SR enc k t (w.setCell p x) B (.slice (some ⟨g,0,none⟩) n c) l:=by
 rcases h with⟨h,_⟩|⟨g',cap,h1,h2,h3,h4,⟨N,h5⟩,h6⟩
 ·cases h
 ·injection h1 with e1 e2 e3
  cases e1
  refine .inr ⟨g,cap,by rw [e2,e3],h2,h3,h4,⟨N,h5.set p x⟩,fun j hj i u hu=>?_⟩
  have hb:(w.setCell p x).heap[g]? =w.heap[g]? :=Below.heap_setCell _ _ _ _ (by omega)
  exact(World.cell?_of_block (a:=⟨g,j*k+i,none⟩) hb).trans (h6 j hj i u hu)
def sqP:List Pt:= [⟨0,0⟩,⟨1,0⟩,⟨1,1⟩,⟨0,1⟩]
def sqT:List Tri:= [(0,1,2),(0,2,3)]
set_option maxRecDepth 20000 in
set_option maxHeartbeats 8000000 in
theorem square_mesh {p0 p1 p2 p3:Pt} (rs:List Tri) (h0:∀w,Calls Tryz.prog 41 #[.int .i64 0,.int .i64 0] w (Ret w (pV p0))) (h1:∀w,Calls Tryz.prog 41 #[.int .i64 1,.int .i64 0] w (Ret w (pV p1))) (h2:∀w,Calls Tryz.prog 41 #[.int .i64 1,.int .i64 1] w (Ret w (pV p2))) (h3:∀w,Calls Tryz.prog 41 #[.int .i64 0,.int .i64 1] w (Ret w (pV p3)))
  (hR:∀W vp vt,SR pC 10 94 W 0 vp [p0,p1,p2,p3]→SR triC 3 96 W 0 vt sqT→Calls Tryz.prog 42 #[vp,vt] W (fun e w'=> ∃v,e= .returned v∧SR triC 3 87 w' W.heap.size v rs∧Gr W.heap.size W w')) (w:World):
  Calls Tryz.prog 19 #[] w (fun e w'=> ∃a b c,e= .returned (.agg #[a,b,c])∧MS w' 0 a b c ⟨[p0,p1,p2,p3],sqT,rs⟩∧Gr w.heap.size w w'):=by
 have h0:=Lib.hid h0
 have h1:=Lib.hid h1
 have h2:=Lib.hid h2
 have h3:=Lib.hid h3
 have hR:=Lib.hid hR
 go_enter Tryz.func19,Tryz.ntmps19
 go_wp2_with fail
 (refine(h0.out _).mono ?_;rintro e w1 ⟨rfl,hg1⟩;(try (with_reducible replace hg1:=Gr.of_drew hg1));have hsz1:=hg1.size;(try simp at hsz1);have hz1_0:w.heap.size<w1.heap.size:=(by omega);obtain ⟨hc1,hf1⟩:=hg1.cells;have HG1:=Lib.hid hg1;clear hg1)
 go_wp2_with fail
 (refine(h1.out _).mono ?_;rintro e w2 ⟨rfl,hg2⟩;(try (with_reducible replace hg2:=Gr.of_drew hg2));have hsz2:=hg2.size;(try simp at hsz2);have hz2_0:w.heap.size<w2.heap.size:=(by omega);obtain ⟨hc2,hf2⟩:=hg2.cells;have HG2:=Lib.hid hg2;clear hg2)
 go_wp2_with fail
 (refine(h2.out _).mono ?_;rintro e w3 ⟨rfl,hg3⟩;(try (with_reducible replace hg3:=Gr.of_drew hg3));have hsz3:=hg3.size;(try simp at hsz3);have hz3_0:w.heap.size<w3.heap.size:=(by omega);obtain ⟨hc3,hf3⟩:=hg3.cells;have HG3:=Lib.hid hg3;clear hg3)
 go_wp2_with fail
 (refine(h3.out _).mono ?_;rintro e w4 ⟨rfl,hg4⟩;(try (with_reducible replace hg4:=Gr.of_drew hg4));have hsz4:=hg4.size;(try simp at hsz4);have hz4_0:w.heap.size<w4.heap.size:=(by omega);obtain ⟨hc4,hf4⟩:=hg4.cells;have HG4:=Lib.hid hg4;clear hg4)
 go_wp2_with fail
 have hp:SL pC 10 94 (w4.alloc (.cells #[.int .u64 (lowN (sz p0.x.num)),.string (bigS (sz p0.x.num)),.bool (ng p0.x.num),.int .u64 (lowN (fm p0.x)),.string (bigS (fm p0.x)),.int .u64 (lowN (sz p0.y.num)),.string (bigS (sz p0.y.num)),.bool (ng p0.y.num),.int .u64 (lowN (fm p0.y)),.string (bigS (fm p0.y)),.int .u64 (lowN (sz p1.x.num)),.string (bigS (sz p1.x.num)),.bool (ng p1.x.num),.int .u64 (lowN (fm p1.x)),.string (bigS (fm p1.x)),.int .u64 (lowN (sz p1.y.num)),.string (bigS (sz p1.y.num)),.bool (ng p1.y.num),.int .u64 (lowN (fm p1.y)),.string (bigS (fm p1.y)),.int .u64 (lowN (sz p2.x.num)),.string (bigS (sz p2.x.num)),.bool (ng p2.x.num),.int .u64 (lowN (fm p2.x)),.string (bigS (fm p2.x)),.int .u64 (lowN (sz p2.y.num)),.string (bigS (sz p2.y.num)),.bool (ng p2.y.num),.int .u64 (lowN (fm p2.y)),.string (bigS (fm p2.y)),.int .u64 (lowN (sz p3.x.num)),.string (bigS (sz p3.x.num)),.bool (ng p3.x.num),.int .u64 (lowN (fm p3.x)),.string (bigS (fm p3.x)),.int .u64 (lowN (sz p3.y.num)),.string (bigS (sz p3.y.num)),.bool (ng p3.y.num),.int .u64 (lowN (fm p3.y)),.string (bigS (fm p3.y))] 94)) 0 (.slice (some ⟨w4.heap.size,0,none⟩) 4 4) [p0,p1,p2,p3]:=SL.new' (enc:=pC) (l:= [p0,p1,p2,p3]) pC_len [.int .u64 (lowN (sz p0.x.num)),.string (bigS (sz p0.x.num)),.bool (ng p0.x.num),.int .u64 (lowN (fm p0.x)),.string (bigS (fm p0.x)),.int .u64 (lowN (sz p0.y.num)),.string (bigS (sz p0.y.num)),.bool (ng p0.y.num),.int .u64 (lowN (fm p0.y)),.string (bigS (fm p0.y)),.int .u64 (lowN (sz p1.x.num)),.string (bigS (sz p1.x.num)),.bool (ng p1.x.num),.int .u64 (lowN (fm p1.x)),.string (bigS (fm p1.x)),.int .u64 (lowN (sz p1.y.num)),.string (bigS (sz p1.y.num)),.bool (ng p1.y.num),.int .u64 (lowN (fm p1.y)),.string (bigS (fm p1.y)),.int .u64 (lowN (sz p2.x.num)),.string (bigS (sz p2.x.num)),.bool (ng p2.x.num),.int .u64 (lowN (fm p2.x)),.string (bigS (fm p2.x)),.int .u64 (lowN (sz p2.y.num)),.string (bigS (sz p2.y.num)),.bool (ng p2.y.num),.int .u64 (lowN (fm p2.y)),.string (bigS (fm p2.y)),.int .u64 (lowN (sz p3.x.num)),.string (bigS (sz p3.x.num)),.bool (ng p3.x.num),.int .u64 (lowN (fm p3.x)),.string (bigS (fm p3.x)),.int .u64 (lowN (sz p3.y.num)),.string (bigS (sz p3.y.num)),.bool (ng p3.y.num),.int .u64 (lowN (fm p3.y)),.string (bigS (fm p3.y))] rfl rfl (Nat.zero_le _) (by simp [maxLen]) rfl
 have ht:SL triC 3 96 ((w4.alloc (.cells #[.int .u64 (lowN (sz p0.x.num)),.string (bigS (sz p0.x.num)),.bool (ng p0.x.num),.int .u64 (lowN (fm p0.x)),.string (bigS (fm p0.x)),.int .u64 (lowN (sz p0.y.num)),.string (bigS (sz p0.y.num)),.bool (ng p0.y.num),.int .u64 (lowN (fm p0.y)),.string (bigS (fm p0.y)),.int .u64 (lowN (sz p1.x.num)),.string (bigS (sz p1.x.num)),.bool (ng p1.x.num),.int .u64 (lowN (fm p1.x)),.string (bigS (fm p1.x)),.int .u64 (lowN (sz p1.y.num)),.string (bigS (sz p1.y.num)),.bool (ng p1.y.num),.int .u64 (lowN (fm p1.y)),.string (bigS (fm p1.y)),.int .u64 (lowN (sz p2.x.num)),.string (bigS (sz p2.x.num)),.bool (ng p2.x.num),.int .u64 (lowN (fm p2.x)),.string (bigS (fm p2.x)),.int .u64 (lowN (sz p2.y.num)),.string (bigS (sz p2.y.num)),.bool (ng p2.y.num),.int .u64 (lowN (fm p2.y)),.string (bigS (fm p2.y)),.int .u64 (lowN (sz p3.x.num)),.string (bigS (sz p3.x.num)),.bool (ng p3.x.num),.int .u64 (lowN (fm p3.x)),.string (bigS (fm p3.x)),.int .u64 (lowN (sz p3.y.num)),.string (bigS (sz p3.y.num)),.bool (ng p3.y.num),.int .u64 (lowN (fm p3.y)),.string (bigS (fm p3.y))] 94)).alloc (.cells #[.int .i64 0,.int .i64 1,.int .i64 2,.int .i64 0,.int .i64 2,.int .i64 3] 96)) 0 (.slice (some ⟨w4.heap.size+1,0,none⟩) 2 2) sqT:=SL.new' (enc:=triC) (l:=sqT) triC_len [.int .i64 0,.int .i64 1,.int .i64 2,.int .i64 0,.int .i64 2,.int .i64 3] rfl (by simp) (Nat.zero_le _) (by simp [maxLen,sqT]) rfl
 have HP:=Lib.hid hp
 have HT:=Lib.hid ht
 clear hp ht
 refine(hR.out _ _ _ (HP.out.sr.gr (by(with_reducible (repeat' (first|exact Gr.refl _ _|refine Gr.drew ?_|refine Gr.setCell ?_ ?_ _|refine Gr.alloc ?_ ?_ _|omega|(simp;done)|(simp;omega)))))) (HT.out.sr.gr (by(with_reducible (repeat' (first|exact Gr.refl _ _|refine Gr.drew ?_|refine Gr.setCell ?_ ?_ _|refine Gr.alloc ?_ ?_ _|omega|(simp;done)|(simp;omega))))))).mono ?_
 rintro e w5 ⟨v5,rfl,hS5,hg5⟩
 obtain ⟨a5,c5,rfl⟩:=hS5.at
 have hsz5:=hg5.size
 simp at hsz5
 have hz5_0:w.heap.size<w5.heap.size:=(by omega)
 have hz5_1:w4.heap.size<w5.heap.size:=(by omega)
 have hz5_2:w4.heap.size+1<w5.heap.size:=(by omega)
 obtain ⟨hc5,hf5⟩:=hg5.cells
 have SP:=Lib.hid (SR.gr (SR.gr HP.out.sr (by(with_reducible (repeat' (first|exact Gr.refl _ _|refine Gr.drew ?_|refine Gr.setCell ?_ ?_ _|refine Gr.alloc ?_ ?_ _|omega|(simp;done)|(simp;omega)))))) hg5)
 have ST:=Lib.hid (SR.gr (SR.gr HT.out.sr (by(with_reducible (repeat' (first|exact Gr.refl _ _|refine Gr.drew ?_|refine Gr.setCell ?_ ?_ _|refine Gr.alloc ?_ ?_ _|omega|(simp;done)|(simp;omega)))))) hg5)
 have HG5:=Lib.hid hg5
 have HS5:=Lib.hid hS5
 clear hg5 hS5
 have hp1:w.heap.size<w4.heap.size+1:=(by omega)
 have hp2:w.heap.size<w4.heap.size+1+1:=(by omega)
 have hp3:w.heap.size<w4.heap.size+1+1+1:=(by omega)
 have hn1:w.heap.size≠w4.heap.size:=(by omega)
 have hn2:w.heap.size≠w4.heap.size+1:=(by omega)
 have hn3:w.heap.size≠w4.heap.size+1+1:=(by omega)
 go_wp2
 refine ret_row (g:=w.heap.size) Tryz.results19 rfl (VB.set (cs:= [.slice none 0 0,.slice none 0 0,.slice none 0 0]) ?_ [.slice (some ⟨w4.heap.size,0,none⟩) 4 4,.slice (some ⟨w4.heap.size+1,0,none⟩) 2 2,.slice a5 rs.length c5] rfl) Tryz.underlying63 rfl info_Mesh rfl ⟨_,_,_,rfl,⟨?_,?_,?_⟩,?_⟩
 ·refine VB.far (VB.gr ?_ HG5.out (by simp;omega)) (by simp;omega) _
  (with_reducible (repeat' (first|(refine VB.new' ?_;exact(by first|omega|(simp;done)|(simp;omega)))|apply VB.put2|apply VB.put3|apply VB.put5|refine VB.drew ?_|refine VB.far ?_ ?_ _|refine VB.alloc ?_ _|refine VB.gr ?_ HG4.out ?_|refine VB.gr ?_ HG3.out ?_|refine VB.gr ?_ HG2.out ?_|refine VB.gr ?_ HG1.out ?_|omega|(simp;done)|(simp;omega))))
 ·exact(((((SP.out.off (by simp<;>omega) _).off (by simp;omega) _).off (by simp;omega) _).off (by simp;omega) _)).mono (Nat.zero_le _)
 ·exact(((((ST.out.off (by simp<;>omega) _).off (by simp;omega) _).off (by simp;omega) _).off (by simp;omega) _)).mono (Nat.zero_le _)
 ·exact(((((HS5.out.far (by simp) _).far (by simp;omega) _).far (by simp;omega) _).far (by simp;omega) _)).mono (Nat.zero_le _)
 ·(with_reducible (repeat' (first|exact Gr.refl _ _|refine Gr.drew ?_|refine Gr.setCell ?_ ?_ _|refine Gr.alloc ?_ ?_ _|refine Gr.trans ?_ (Gr.mono HG5.out ?_)|refine Gr.trans ?_ (Gr.mono HG4.out ?_)|refine Gr.trans ?_ (Gr.mono HG3.out ?_)|refine Gr.trans ?_ (Gr.mono HG2.out ?_)|refine Gr.trans ?_ (Gr.mono HG1.out ?_)|omega|(simp;done)|(simp;omega))))
end Go.Proofs.YtmelogdhllhjiaaGreat
