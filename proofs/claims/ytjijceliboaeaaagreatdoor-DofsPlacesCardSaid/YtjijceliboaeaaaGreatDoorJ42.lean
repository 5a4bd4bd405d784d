/-
  Part 42 of the proof: SqD SqE LivD.
-/
import Derived.Test.YtjijceliboaeaaaGreatDoorJ41
set_option linter.unusedSimpArgs false
set_option linter.unusedVariables false
namespace Go.Proofs.YtjijceliboaeaaaGreatDoor
open Go.RowKit Gus Go.Maps
def sqT:List Tri:= [(0,1,2),(0,2,3)]
set_option maxRecDepth 20000 in
set_option maxHeartbeats 8000000 in
theorem square_mesh {p0 p1 p2 p3:Pt} (rs:List Tri) (h0:∀w,Calls Tryz.prog 57 #[.int .i64 0,.int .i64 0] w (Ret w (pV p0))) (h1:∀w,Calls Tryz.prog 57 #[.int .i64 1,.int .i64 0] w (Ret w (pV p1))) (h2:∀w,Calls Tryz.prog 57 #[.int .i64 1,.int .i64 1] w (Ret w (pV p2))) (h3:∀w,Calls Tryz.prog 57 #[.int .i64 0,.int .i64 1] w (Ret w (pV p3)))
  (hR:∀W vp vt,SR pC 10 55 W 0 vp [p0,p1,p2,p3]→SR triC 3 77 W 0 vt sqT→Calls Tryz.prog 58 #[vp,vt] W (fun e w'=> ∃v,e= .returned v∧SR triC 3 79 w' W.heap.size v rs∧Gr W.heap.size W w')) (w:World):
  Calls Tryz.prog 31 #[] w (fun e w'=> ∃a b c,e= .returned (.agg #[a,b,c])∧MS w' 0 a b c ⟨[p0,p1,p2,p3],sqT,rs⟩∧Gr w.heap.size w w'):=by
 have h0:=Lib.hid h0
 have h1:=Lib.hid h1
 have h2:=Lib.hid h2
 have h3:=Lib.hid h3
 have hR:=Lib.hid hR
 go_enter Tryz.func31,Tryz.ntmps31
 go_wp2_with fail
 (refine(h0.out _).mono ?_;rintro e w1 ⟨rfl,hg1⟩;(try (with_reducible replace hg1:=Gr.of_drew hg1));have hsz1:=hg1.size;(try simp at hsz1);have hz1_0:w.heap.size<w1.heap.size:=(by omega);obtain ⟨hc1,hf1⟩:=hg1.cells;have HG1:=Lib.hid hg1;clear hg1)
 go_wp2_with fail
 (refine(h1.out _).mono ?_;rintro e w2 ⟨rfl,hg2⟩;(try (with_reducible replace hg2:=Gr.of_drew hg2));have hsz2:=hg2.size;(try simp at hsz2);have hz2_0:w.heap.size<w2.heap.size:=(by omega);obtain ⟨hc2,hf2⟩:=hg2.cells;have HG2:=Lib.hid hg2;clear hg2)
 go_wp2_with fail
 (refine(h2.out _).mono ?_;rintro e w3 ⟨rfl,hg3⟩;(try (with_reducible replace hg3:=Gr.of_drew hg3));have hsz3:=hg3.size;(try simp at hsz3);have hz3_0:w.heap.size<w3.heap.size:=(by omega);obtain ⟨hc3,hf3⟩:=hg3.cells;have HG3:=Lib.hid hg3;clear hg3)
 go_wp2_with fail
 (refine(h3.out _).mono ?_;rintro e w4 ⟨rfl,hg4⟩;(try (with_reducible replace hg4:=Gr.of_drew hg4));have hsz4:=hg4.size;(try simp at hsz4);have hz4_0:w.heap.size<w4.heap.size:=(by omega);obtain ⟨hc4,hf4⟩:=hg4.cells;have HG4:=Lib.hid hg4;clear hg4)
 go_wp2_with fail
 have hp:SL pC 10 55 (w4.alloc (.cells #[.int .u64 (lowN (sz p0.x.num)),.string (bigS (sz p0.x.num)),.bool (ng p0.x.num),.int .u64 (lowN (fm p0.x)),.string (bigS (fm p0.x)),.int .u64 (lowN (sz p0.y.num)),.string (bigS (sz p0.y.num)),.bool (ng p0.y.num),.int .u64 (lowN (fm p0.y)),.string (bigS (fm p0.y)),.int .u64 (lowN (sz p1.x.num)),.string (bigS (sz p1.x.num)),.bool (ng p1.x.num),.int .u64 (lowN (fm p1.x)),.string (bigS (fm p1.x)),.int .u64 (lowN (sz p1.y.num)),.string (bigS (sz p1.y.num)),.bool (ng p1.y.num),.int .u64 (lowN (fm p1.y)),.string (bigS (fm p1.y)),.int .u64 (lowN (sz p2.x.num)),.string (bigS (sz p2.x.num)),.bool (ng p2.x.num),.int .u64 (lowN (fm p2.x)),.string (bigS (fm p2.x)),.int .u64 (lowN (sz p2.y.num)),.string (bigS (sz p2.y.num)),.bool (ng p2.y.num),.int .u64 (lowN (fm p2.y)),.string (bigS (fm p2.y)),.int .u64 (lowN (sz p3.x.num)),.string (bigS (sz p3.x.num)),.bool (ng p3.x.num),.int .u64 (lowN (fm p3.x)),.string (bigS (fm p3.x)),.int .u64 (lowN (sz p3.y.num)),.string (bigS (sz p3.y.num)),.bool (ng p3.y.num),.int .u64 (lowN (fm p3.y)),.string (bigS (fm p3.y))] 55)) 0 (.slice (some ⟨w4.heap.size,0,none⟩) 4 4) [p0,p1,p2,p3]:=SL.new' (enc:=pC) (l:= [p0,p1,p2,p3]) pC_len [.int .u64 (lowN (sz p0.x.num)),.string (bigS (sz p0.x.num)),.bool (ng p0.x.num),.int .u64 (lowN (fm p0.x)),.string (bigS (fm p0.x)),.int .u64 (lowN (sz p0.y.num)),.string (bigS (sz p0.y.num)),.bool (ng p0.y.num),.int .u64 (lowN (fm p0.y)),.string (bigS (fm p0.y)),.int .u64 (lowN (sz p1.x.num)),.string (bigS (sz p1.x.num)),.bool (ng p1.x.num),.int .u64 (lowN (fm p1.x)),.string (bigS (fm p1.x)),.int .u64 (lowN (sz p1.y.num)),.string (bigS (sz p1.y.num)),.bool (ng p1.y.num),.int .u64 (lowN (fm p1.y)),.string (bigS (fm p1.y)),.int .u64 (lowN (sz p2.x.num)),.string (bigS (sz p2.x.num)),.bool (ng p2.x.num),.int .u64 (lowN (fm p2.x)),.string (bigS (fm p2.x)),.int .u64 (lowN (sz p2.y.num)),.string (bigS (sz p2.y.num)),.bool (ng p2.y.num),.int .u64 (lowN (fm p2.y)),.string (bigS (fm p2.y)),.int .u64 (lowN (sz p3.x.num)),.string (bigS (sz p3.x.num)),.bool (ng p3.x.num),.int .u64 (lowN (fm p3.x)),.string (bigS (fm p3.x)),.int .u64 (lowN (sz p3.y.num)),.string (bigS (sz p3.y.num)),.bool (ng p3.y.num),.int .u64 (lowN (fm p3.y)),.string (bigS (fm p3.y))] rfl rfl (Nat.zero_le _) (by simp [maxLen]) rfl
 have ht:SL triC 3 77 ((w4.alloc (.cells #[.int .u64 (lowN (sz p0.x.num)),.string (bigS (sz p0.x.num)),.bool (ng p0.x.num),.int .u64 (lowN (fm p0.x)),.string (bigS (fm p0.x)),.int .u64 (lowN (sz p0.y.num)),.string (bigS (sz p0.y.num)),.bool (ng p0.y.num),.int .u64 (lowN (fm p0.y)),.string (bigS (fm p0.y)),.int .u64 (lowN (sz p1.x.num)),.string (bigS (sz p1.x.num)),.bool (ng p1.x.num),.int .u64 (lowN (fm p1.x)),.string (bigS (fm p1.x)),.int .u64 (lowN (sz p1.y.num)),.string (bigS (sz p1.y.num)),.bool (ng p1.y.num),.int .u64 (lowN (fm p1.y)),.string (bigS (fm p1.y)),.int .u64 (lowN (sz p2.x.num)),.string (bigS (sz p2.x.num)),.bool (ng p2.x.num),.int .u64 (lowN (fm p2.x)),.string (bigS (fm p2.x)),.int .u64 (lowN (sz p2.y.num)),.string (bigS (sz p2.y.num)),.bool (ng p2.y.num),.int .u64 (lowN (fm p2.y)),.string (bigS (fm p2.y)),.int .u64 (lowN (sz p3.x.num)),.string (bigS (sz p3.x.num)),.bool (ng p3.x.num),.int .u64 (lowN (fm p3.x)),.string (bigS (fm p3.x)),.int .u64 (lowN (sz p3.y.num)),.string (bigS (sz p3.y.num)),.bool (ng p3.y.num),.int .u64 (lowN (fm p3.y)),.string (bigS (fm p3.y))] 55)).alloc (.cells #[.int .i64 0,.int .i64 1,.int .i64 2,.int .i64 0,.int .i64 2,.int .i64 3] 77)) 0 (.slice (some ⟨w4.heap.size+1,0,none⟩) 2 2) sqT:=SL.new' (enc:=triC) (l:=sqT) triC_len [.int .i64 0,.int .i64 1,.int .i64 2,.int .i64 0,.int .i64 2,.int .i64 3] rfl (by simp) (Nat.zero_le _) (by simp [maxLen,sqT]) rfl
 have HP:=Lib.hid hp
 have HT:=Lib.hid ht
 clear hp ht
 refine(hR.out _ _ _ (HP.out.sr.gr (by(with_reducible (repeat' (first|exact Gr.refl _ _|refine Gr.drew ?_|refine Gr.setCell ?_ ?_ _|refine Gr.alloc ?_ ?_ _|omega|(simp;done)|(simp;omega)))))) (HT.out.sr.gr (by(with_reducible (repeat' (first|exact Gr.refl _ _|refine Gr.drew ?_|refine Gr.setCell ?_ ?_ _|refine Gr.alloc ?_ ?_ _|omega|(simp;done)|(simp;omega))))))).mono ?_
 rintro e w5 ⟨v5,rfl,hS5,hg5⟩
 obtain ⟨a5,c5,rfl⟩:=hS5.at
 have hsz5:=hg5.size
 simp at hsz5
 have hz5_0:w.heap.size<w5.heap.size:=(by omega)
 have hz5_1:w4.heap.size<w5.heap.size:=(by omega)
 have hz5_2:w4.heap.size+1<w5.heap.size:=(by omega)
 obtain ⟨hc5,hf5⟩:=hg5.cells
 have SP:=Lib.hid (SR.gr (SR.gr HP.out.sr (by(with_reducible (repeat' (first|exact Gr.refl _ _|refine Gr.drew ?_|refine Gr.setCell ?_ ?_ _|refine Gr.alloc ?_ ?_ _|omega|(simp;done)|(simp;omega)))))) hg5)
 have ST:=Lib.hid (SR.gr (SR.gr HT.out.sr (by(with_reducible (repeat' (first|exact Gr.refl _ _|refine Gr.drew ?_|refine Gr.setCell ?_ ?_ _|refine Gr.alloc ?_ ?_ _|omega|(simp;done)|(simp;omega)))))) hg5)
 have HG5:=Lib.hid hg5
 have HS5:=Lib.hid hS5
 clear hg5 hS5
 have hp1:w.heap.size<w4.heap.size+1:=(by omega)
 have hp2:w.heap.size<w4.heap.size+1+1:=(by omega)
 have hp3:w.heap.size<w4.heap.size+1+1+1:=(by omega)
 have hn1:w.heap.size≠w4.heap.size:=(by omega)
 have hn2:w.heap.size≠w4.heap.size+1:=(by omega)
 have hn3:w.heap.size≠w4.heap.size+1+1:=(by omega)
 go_wp2
 refine ret_row (g:=w.heap.size) Tryz.results31 rfl (VB.set (cs:= [.slice none 0 0,.slice none 0 0,.slice none 0 0]) ?_ [.slice (some ⟨w4.heap.size,0,none⟩) 4 4,.slice (some ⟨w4.heap.size+1,0,none⟩) 2 2,.slice a5 rs.length c5] rfl) Tryz.underlying31 rfl info_Mesh rfl ⟨_,_,_,rfl,⟨?_,?_,?_⟩,?_⟩
 ·refine VB.far (VB.gr ?_ HG5.out (by simp;omega)) (by simp;omega) _
  (with_reducible (repeat' (first|(refine VB.new' ?_;exact(by first|omega|(simp;done)|(simp;omega)))|apply VB.put2|apply VB.put3|apply VB.put5|refine VB.drew ?_|refine VB.far ?_ ?_ _|refine VB.alloc ?_ _|refine VB.gr ?_ HG4.out ?_|refine VB.gr ?_ HG3.out ?_|refine VB.gr ?_ HG2.out ?_|refine VB.gr ?_ HG1.out ?_|omega|(simp;done)|(simp;omega))))
 ·exact(((((SP.out.off (by simp<;>omega) _).off (by simp;omega) _).off (by simp;omega) _).off (by simp;omega) _)).mono (Nat.zero_le _)
 ·exact(((((ST.out.off (by simp<;>omega) _).off (by simp;omega) _).off (by simp;omega) _).off (by simp;omega) _)).mono (Nat.zero_le _)
 ·exact(((((HS5.out.far (by simp) _).far (by simp;omega) _).far (by simp;omega) _).far (by simp;omega) _)).mono (Nat.zero_le _)
 ·(with_reducible (repeat' (first|exact Gr.refl _ _|refine Gr.drew ?_|refine Gr.setCell ?_ ?_ _|refine Gr.alloc ?_ ?_ _|refine Gr.trans ?_ (Gr.mono HG5.out ?_)|refine Gr.trans ?_ (Gr.mono HG4.out ?_)|refine Gr.trans ?_ (Gr.mono HG3.out ?_)|refine Gr.trans ?_ (Gr.mono HG2.out ?_)|refine Gr.trans ?_ (Gr.mono HG1.out ?_)|omega|(simp;done)|(simp;omega))))
end Go.Proofs.YtjijceliboaeaaaGreatDoor
namespace Go.Proofs.YtjijceliboaeaaaGreatDoor
open Go.RowKit Gus Go.Maps
def sqEs:List Edg:= [⟨0,1,0,-1⟩,⟨0,2,1,0⟩,⟨0,3,-1,1⟩,⟨1,2,0,-1⟩,⟨2,3,1,-1⟩]
theorem stE_sq:stE sqT sqT.length= [⟨0,1,0,-1⟩,⟨1,2,0,-1⟩,⟨0,2,1,0⟩,⟨2,3,1,-1⟩,⟨0,3,-1,1⟩]:=by rfl
theorem sqEs_perm:sqEs.Perm (stE sqT sqT.length):=by
 rw [stE_sq]
 decide
theorem esM_sq:esM sqT=sqEs:=es_unique (stE_nodup _ _) (esM_perm sqT) (esM_sorted sqT) sqEs_perm (by simp only [sqEs,List.pairwise_cons,List.mem_cons,List.not_mem_nil,or_false,ordE_lt];simp)
def x0:RawM:=⟨0,0,1,0,1,0,0,1,[]⟩
def sqR:List Tri:=rimOf (stC sqT sqT.length) (esM sqT)
def sqM:Msh:=meshOf x0.k x0.d x0.P x0.L sqR
theorem x0_tris:x0.L.map (triOf x0.P)=sqT:=by decide+kernel
theorem x0_P:x0.P= [(0,0),(2,0),(2,2),(0,2)]:=by decide+kernel
theorem sqM_tris:sqM.tris=sqT:=x0_tris
theorem sqM_pts:sqM.pts= [⟨0,0⟩,⟨1,0⟩,⟨1,1⟩,⟨0,1⟩]:=by
 show x0.P.map (ptM x0.k x0.d)=_
 rw [x0_P]
 decide+kernel
theorem sq_good:∀t∈sqT,goodT 4 t:=by decide
theorem sqR_eq:sqR= [(0,1,0),(0,3,0),(1,2,0),(2,3,0)]:=by
 unfold sqR
 rw [esM_sq]
 decide+kernel
theorem sqR_ok:RimOk (x0.L.map (triOf x0.P)) sqR:=by
 rw [x0_tris]
 obtain ⟨h1,h2⟩:=rim_pairs sq_good (esM_perm sqT) (esM_sorted sqT)
 exact⟨h1,h2⟩
theorem sq_Check (W:World) (a b c:Value) (hM:MS W 0 a b c sqM):Calls Tryz.prog 15 #[.agg #[a,b,c]] W (Ret W (.int .i64 0)):=
 ms_CheckG x0.net x0.det x0.smallK x0.d_pos.1 x0.d_pos.2 (by rw [sqR_eq,x0_P];decide) (by rw [sqR_eq];decide) sqR_ok a b c W hM
theorem square_Call (w:World):Calls Tryz.prog 31 #[] w (fun e w'=> ∃a b c,e= .returned (.agg #[a,b,c])∧MS w' 0 a b c sqM∧Gr w.heap.size w w'):=by
 have e:sqM=⟨[⟨0,0⟩,⟨1,0⟩,⟨1,1⟩,⟨0,1⟩],sqT,sqR⟩:=by
  rw [←sqM_pts,←sqM_tris];rfl
 rw [e]
 refine square_mesh (p0:=⟨0,0⟩) (p1:=⟨1,0⟩) (p2:=⟨1,1⟩) (p3:=⟨0,1⟩) sqR (fun w=>by simpa using pt_Int 0 0 w (by omega) (by omega) (by omega) (by omega)) (fun w=>by simpa using pt_Int 1 0 w (by omega) (by omega) (by omega) (by omega)) (fun w=>by simpa using pt_Int 1 1 w (by omega) (by omega) (by omega) (by omega)) (fun w=>by simpa using pt_Int 0 1 w (by omega) (by omega) (by omega) (by omega)) (fun W vp vt hP hT=>?_) w
 refine(ms_RimG _ vp vt W sqT hP (by simp) hT (by decide) (by decide) (by decide)).mono ?_
 rintro e w' ⟨v',rfl,es,hS,hp,hs,hg⟩
 have:=es_unique (stE_nodup _ _) hp hs (esM_perm sqT) (esM_sorted sqT)
 subst this
 exact⟨v',rfl,hS.mono (Nat.le_refl _),hg⟩
theorem sq_num:numM 2 sqM=9:=by
 unfold numM
 rw [sqM_tris,sqM_pts,esM_sq]
 decide+kernel
def sqL:List (Int×Int):= [(0,1),(0,2),(0,3),(1,2),(2,3)]
theorem sq_ends:(esM sqM.tris).map abE=sqL:=by rw [sqM_tris,esM_sq];decide+kernel
theorem sq_rows:sqM.tris.map (rowM 2 sqM)= [[0,1,2,7,5,4],[0,2,3,8,6,5]]:=by
 unfold rowM
 rw [sqM_tris,sqM_pts,esM_sq]
 decide+kernel
theorem sq_Of (a b c:Value) (w:World) (hM:MS w 0 a b c sqM):Calls Tryz.prog 5 #[.agg #[a,b,c],.int .i64 2] w (fun e w'=> ∃x y z,e= .returned (.tuple #[tabV 2 9 x y z,.int .i64 0])∧TabM w' w.heap.size 2 sqM x y z∧Gr w.heap.size w w'):=by
 have h:=g_Of sqM 2 (.inr rfl) (by rw [sqM_pts];decide) (by rw [sqM_tris];decide) (by rw [sqM_tris,sqM_pts];exact sq_good) (by rw [sqM_tris];decide) (by rw [sqM_pts];decide+kernel) sq_Check a b c w hM
 rw [sq_num]at h
 exact h
end Go.Proofs.YtjijceliboaeaaaGreatDoor
namespace Go.Proofs.YtjijceliboaeaaaGreatDoor
open Go.RowKit Gus Go.Maps
theorem sq_tab {w:World} {B:Nat} {x y z:Value} (h:TabM w B 2 sqM x y z):∃(gx cx g0 g1 cy cz:Nat) (ay az:Option Addr),y= .slice ay 9 cy∧z= .slice az 5 cz∧x= .slice (some ⟨gx,0,none⟩) 2 cx∧gx<w.heap.size∧g0<w.heap.size∧g1<w.heap.size∧VB w gx [.slice (some ⟨g0,0,none⟩) 6 6,.slice (some ⟨g1,0,none⟩) 6 6]∧
  IR w 0 (.slice (some ⟨g0,0,none⟩) 6 6) [0,1,2,7,5,4]∧IR w 0 (.slice (some ⟨g1,0,none⟩) 6 6) [0,2,3,8,6,5]∧SR i2C 2 85 w 0 (.slice az 5 cz) sqL:=by
 obtain ⟨hx,hy,hz⟩:=h
 rw [sq_rows]at hx
 rw [sq_ends]at hz
 obtain ⟨ay,cy,rfl⟩:=hy.at
 obtain ⟨az,cz,rfl⟩:=hz.at
 rw [atM_len,sq_num]
 obtain ⟨rs,hS,hl,hr⟩:=hx
 match rs,hl with
 | [p,q],_=>
  obtain ⟨a1,b1,c1,d1⟩:=hr 0 p _ rfl rfl
  obtain ⟨a2,b2,c2,d2⟩:=hr 1 q _ rfl rfl
  obtain ⟨gx,cx,rfl,hB,hc,hm,hsh,hR⟩:=hS.block (by simp)
  obtain ⟨g0,n0⟩:=p
  obtain ⟨g1,n1⟩:=q
  simp only [List.length_cons,List.length_nil]at a1 a2
  subst a1 a2
  refine⟨gx,cx,g0,g1,cy,cz,ay,az,rfl,rfl,rfl,hsh.lt,c1.lt,c2.lt,⟨fun i v hv=>?_,fun i _=>hsh.choose_spec.frozen i,hsh.lt⟩,⟨.inr ⟨g0,6,rfl,Nat.zero_le _,by simp,by simp [maxLen],c1,d1⟩,_,rfl⟩,⟨.inr ⟨g1,6,rfl,Nat.zero_le _,by simp,by simp [maxLen],c2,d2⟩,_,rfl⟩,hz.mono (Nat.zero_le _)⟩
  match i,hv with
  | 0,hv=>injection hv with e;subst e;exact hR 0 (by simp) 0 _ rfl
  | 1,hv=>injection hv with e;subst e;exact hR 1 (by simp) 0 _ rfl
theorem sq_on {R:List Nat} (h:R.Perm (onS 2 9 sqL [(0,3,0)])) (hs:R.Pairwise (· ≤·)):R= [0,3,6]:=by
 have e:onS 2 9 sqL [(0,3,0)]= [0,3,6]:=by decide+kernel
 rw [e]at h
 exact List.Perm.eq_of_pairwise (le:=fun a b:Nat=>a≤b) (fun a b _ _ h1 h2=>Nat.le_antisymm h1 h2) hs (by decide) h
set_option maxRecDepth 20000 in
set_option maxHeartbeats 8000000 in
theorem law_lives (w:World):Calls Tryz.prog 12 #[] w (fun e w'=>e= .returned (.bool true)∧Below w.heap.size w w'):=by
 go_enter Tryz.func12,Tryz.ntmps12
 go_wp2_with fail
 refine(square_Call _).mono ?_
 rintro e w1 ⟨a,b,c,rfl,hM,hg1⟩
 have HM:=Lib.hid hM
 have HG1:=Lib.hid hg1
 clear hM hg1
 go_wp2_with fail
 refine(sq_Of a b c _ HM.out).mono ?_
 rintro e w2 ⟨x,y,z,rfl,hT,hg2⟩
 obtain ⟨gx,cx,g0,g1,cy,cz,ay,az,rfl,rfl,rfl,lx,l0,l1,xv,i0,i1,iz⟩:=sq_tab hT
 have hz01:=HG1.out.size
 have hz12:=hg2.size
 (try simp at hz12)
 have HI0:=Lib.hid (show IR (w2.alloc (.cells #[.int .i64 2,.int .i64 9,.slice (some ⟨gx,0,none⟩) 2 cx,.slice ay 9 cy,.slice az 5 cz] 36)) 0 _ _ from i0.gr (by(with_reducible (repeat' (first|exact Gr.refl _ _|refine Gr.drew ?_|refine Gr.setCell ?_ ?_ _|refine Gr.alloc ?_ ?_ _|omega|(simp;done)|(simp;omega))))))
 have HI1:=Lib.hid (show IR (w2.alloc (.cells #[.int .i64 2,.int .i64 9,.slice (some ⟨gx,0,none⟩) 2 cx,.slice ay 9 cy,.slice az 5 cz] 36)) 0 _ _ from i1.gr (by(with_reducible (repeat' (first|exact Gr.refl _ _|refine Gr.drew ?_|refine Gr.setCell ?_ ?_ _|refine Gr.alloc ?_ ?_ _|omega|(simp;done)|(simp;omega))))))
 have HZ:=Lib.hid (show SR i2C 2 85 (w2.alloc (.cells #[.int .i64 2,.int .i64 9,.slice (some ⟨gx,0,none⟩) 2 cx,.slice ay 9 cy,.slice az 5 cz] 36)) 0 _ _ from iz.gr (by(with_reducible (repeat' (first|exact Gr.refl _ _|refine Gr.drew ?_|refine Gr.setCell ?_ ?_ _|refine Gr.alloc ?_ ?_ _|omega|(simp;done)|(simp;omega))))))
 have HG2:=Lib.hid (show Gr w.heap.size w (w2.alloc (.cells #[.int .i64 2,.int .i64 9,.slice (some ⟨gx,0,none⟩) 2 cx,.slice ay 9 cy,.slice az 5 cz] 36))from((show Gr w.heap.size w w1 from by(with_reducible (repeat' (first|exact Gr.refl _ _|refine Gr.drew ?_|refine Gr.setCell ?_ ?_ _|refine Gr.alloc ?_ ?_ _|refine Gr.trans ?_ (Gr.mono HG1.out ?_)|omega|(simp;done)|(simp;omega))))).trans (hg2.mono (by first|omega|(simp;done)|(simp;omega)))).trans (by(with_reducible (repeat' (first|exact Gr.refl _ _|refine Gr.drew ?_|refine Gr.setCell ?_ ?_ _|refine Gr.alloc ?_ ?_ _|omega|(simp;done)|(simp;omega))))))
 have HV:=Lib.hid (show VB (w2.alloc (.cells #[.int .i64 2,.int .i64 9,.slice (some ⟨gx,0,none⟩) 2 cx,.slice ay 9 cy,.slice az 5 cz] 36)) w2.heap.size [.int .i64 2,.int .i64 9,.slice (some ⟨gx,0,none⟩) 2 cx,.slice ay 9 cy,.slice az 5 cz]from by(with_reducible (repeat' (first|(refine VB.new' ?_;exact(by first|omega|(simp;done)|(simp;omega)))|apply VB.put2|apply VB.put3|apply VB.put5|refine VB.drew ?_|refine VB.far ?_ ?_ _|refine VB.alloc ?_ _|omega|(simp;done)|(simp;omega)))))
 have HX:=Lib.hid (show VB (w2.alloc (.cells #[.int .i64 2,.int .i64 9,.slice (some ⟨gx,0,none⟩) 2 cx,.slice ay 9 cy,.slice az 5 cz] 36)) gx [.slice (some ⟨g0,0,none⟩) 6 6,.slice (some ⟨g1,0,none⟩) 6 6]from xv.alloc _)
 have hs3:(w2.alloc (.cells #[.int .i64 2,.int .i64 9,.slice (some ⟨gx,0,none⟩) 2 cx,.slice ay 9 cy,.slice az 5 cz] 36)).heap.size=w2.heap.size+1:=by simp
 clear hT hg2 i0 i1 iz HM HG1 xv
 go_upto_region 2 with fail
 generalize (w2.alloc (.cells #[.int .i64 2,.int .i64 9,.slice (some ⟨gx,0,none⟩) 2 cx,.slice ay 9 cy,.slice az 5 cz] 36))=w3 at *
 have htb:w2.heap.size<w3.heap.size:=by omega
 have hgx:gx<w3.heap.size:=by omega
 have hgt:¬w2.heap.size=gx:=by omega
 generalize w2.heap.size=tb at *
 have HA:=Lib.hid (show ∀W,Gr w3.heap.size w3 W→Calls Tryz.prog 32 #[.agg #[.int .i64 2,.int .i64 9,.slice (some ⟨gx,0,none⟩) 2 cx,.slice ay 9 cy,.slice az 5 cz],.int .i64 0,.int .i64 2] W (fun e w'=> ∃v,e= .returned (.tuple #[v,.int .i64 0])∧IR w' W.heap.size v [0,2,5]∧Gr W.heap.size W w')from fun W hW=>df_Side 2 9 (.slice (some ⟨gx,0,none⟩) 2 cx) (.slice ay 9 cy) (.slice az 5 cz) sqL 0 2 1 W (.inr rfl) (HZ.out.gr hW) (by decide) (by decide) (by decide) (by decide) (by decide+kernel))
 have HB:=Lib.hid (show ∀W,Gr w3.heap.size w3 W→Calls Tryz.prog 32 #[.agg #[.int .i64 2,.int .i64 9,.slice (some ⟨gx,0,none⟩) 2 cx,.slice ay 9 cy,.slice az 5 cz],.int .i64 1,.int .i64 3] W (Ret W (.tuple #[.slice none 0 0,.int .i64 1]))from fun W hW=>side_none 2 9 (.slice (some ⟨gx,0,none⟩) 2 cx) (.slice ay 9 cy) (.slice az 5 cz) sqL 1 3 W (HZ.out.gr hW) (by decide) (by decide+kernel))
 have HC:=Lib.hid (show ∀(W:World) (vs:Value),Gr w3.heap.size w3 W→SR triC 3 79 W 0 vs [(0,3,0)]→Calls Tryz.prog 34 #[.agg #[.int .i64 2,.int .i64 9,.slice (some ⟨gx,0,none⟩) 2 cx,.slice ay 9 cy,.slice az 5 cz],vs] W (fun e w'=> ∃v,e= .returned v∧IR w' W.heap.size v [0,3,6]∧Below W.heap.size W w')from fun W vs hW hQ=>by
  refine(df_On 2 9 (.slice (some ⟨gx,0,none⟩) 2 cx) (.slice ay 9 cy) (.slice az 5 cz) vs sqL [(0,3,0)] W (.inr rfl) (HZ.out.gr hW) hQ (by decide) (by decide) (by decide) (by decide) (fun s hs=>by
   rw [List.mem_singleton]at hs
   subst hs
   exact⟨by decide,by decide,2,by decide,by decide+kernel⟩)).mono ?_
  rintro e w' ⟨v,R,rfl,h1,h2,h3,h4⟩
  rw [sq_on h1 h2]at h3
  exact⟨v,rfl,h3,h4⟩)
 clear HZ
 obtain ⟨t0,t1,t2,t3,t4,-⟩:=HV.out.five
 go_wp2_with fail
 refine(HA.out _ (by(with_reducible (repeat' (first|exact Gr.refl _ _|refine Gr.drew ?_|refine Gr.setCell ?_ ?_ _|refine Gr.alloc ?_ ?_ _|omega|(simp;done)|(simp;omega)))))).mono ?_
 rintro e w4 ⟨v4,rfl,hv4,hg4⟩
 obtain ⟨hv4,a4,rfl⟩:=hv4
 have HV4:=Lib.hid (show IR w4 0 (.slice a4 3 3) [0,2,5]from⟨hv4.mono (Nat.zero_le _),a4,rfl⟩)
 have HG4:=Lib.hid (show Gr w3.heap.size w3 w4 from hg4)
 obtain ⟨hc4,hf4⟩:=HG4.out.cells
 have hz4:=HG4.out.size
 clear hv4 hg4
 go_wp2_with fail
 refine(HB.out _ (by(with_reducible (repeat' (first|exact Gr.refl _ _|refine Gr.drew ?_|refine Gr.setCell ?_ ?_ _|refine Gr.alloc ?_ ?_ _|refine Gr.trans ?_ (Gr.mono HG4.out ?_)|omega|(simp;done)|(simp;omega)))))).mono ?_
 rintro e w5 ⟨rfl,hg5⟩
 have HG5:=Lib.hid (HG4.out.trans (hg5.mono hz4))
 have HV5:=Lib.hid (HV4.out.gr hg5)
 obtain ⟨hc5,hf5⟩:=HG5.out.cells
 have hz5:=HG5.out.size
 clear hg5 hc4 hf4 HV4
 have y0:=HX.out.c 0 _ rfl
 have y1:=HX.out.c 1 _ rfl
 go_wp2_with fail
 refine(law_Ints [0,1,2,7,5,4] _ _ _ (HI0.out.gr (by(with_reducible (repeat' (first|exact Gr.refl _ _|refine Gr.drew ?_|refine Gr.setCell ?_ ?_ _|refine Gr.alloc ?_ ?_ _|refine Gr.trans ?_ (Gr.mono HG5.out ?_)|omega|(simp;done)|(simp;omega)))))) (SL.new' (l:= [0,1,2,7,5,4]) iC_len _ rfl rfl (Nat.zero_le _) (by simp [maxLen]) rfl).sr (by simp)).mono ?_
 rintro e w6 ⟨rfl,hg6⟩
 have hs6:=hg6.size
 (try simp at hs6)
 have HG6:=Lib.hid (show Gr w3.heap.size w3 w6 from(show Gr w3.heap.size w3 _ from by(with_reducible (repeat' (first|exact Gr.refl _ _|refine Gr.drew ?_|refine Gr.setCell ?_ ?_ _|refine Gr.alloc ?_ ?_ _|refine Gr.trans ?_ (Gr.mono HG5.out ?_)|omega|(simp;done)|(simp;omega))))).trans (hg6.mono (by first|omega|(simp;done)|(simp;omega))))
 have HV6:=Lib.hid (show IR w6 0 (.slice a4 3 3) [0,2,5]from(HV5.out.gr (by(with_reducible (repeat' (first|exact Gr.refl _ _|refine Gr.drew ?_|refine Gr.setCell ?_ ?_ _|refine Gr.alloc ?_ ?_ _|omega|(simp;done)|(simp;omega)))))).gr hg6)
 obtain ⟨hc6,hf6⟩:=HG6.out.cells
 have hz6:=HG6.out.size
 clear hg6 hc5 hf5
 go_wp2_with fail
 refine(law_Ints [0,2,3,8,6,5] _ _ _ (HI1.out.gr (by(with_reducible (repeat' (first|exact Gr.refl _ _|refine Gr.drew ?_|refine Gr.setCell ?_ ?_ _|refine Gr.alloc ?_ ?_ _|refine Gr.trans ?_ (Gr.mono HG6.out ?_)|omega|(simp;done)|(simp;omega)))))) (SL.new' (l:= [0,2,3,8,6,5]) iC_len _ rfl rfl (Nat.zero_le _) (by simp [maxLen]) rfl).sr (by simp)).mono ?_
 rintro e w7 ⟨rfl,hg7⟩
 have hs7:=hg7.size
 (try simp at hs7)
 have HG7:=Lib.hid (show Gr w3.heap.size w3 w7 from(show Gr w3.heap.size w3 _ from by(with_reducible (repeat' (first|exact Gr.refl _ _|refine Gr.drew ?_|refine Gr.setCell ?_ ?_ _|refine Gr.alloc ?_ ?_ _|refine Gr.trans ?_ (Gr.mono HG6.out ?_)|omega|(simp;done)|(simp;omega))))).trans (hg7.mono (by first|omega|(simp;done)|(simp;omega))))
 have HV7:=Lib.hid (show IR w7 0 (.slice a4 3 3) [0,2,5]from(HV6.out.gr (by(with_reducible (repeat' (first|exact Gr.refl _ _|refine Gr.drew ?_|refine Gr.setCell ?_ ?_ _|refine Gr.alloc ?_ ?_ _|omega|(simp;done)|(simp;omega)))))).gr hg7)
 obtain ⟨hc7,hf7⟩:=HG7.out.cells
 have hz7:=HG7.out.size
 clear hg7 hc6 hf6
 go_wp2_with fail
 refine(law_Ints [0,2,5] _ _ _ (HV7.out.gr (by(with_reducible (repeat' (first|exact Gr.refl _ _|refine Gr.drew ?_|refine Gr.setCell ?_ ?_ _|refine Gr.alloc ?_ ?_ _|omega|(simp;done)|(simp;omega)))))) (SL.new' (l:= [0,2,5]) iC_len _ rfl rfl (Nat.zero_le _) (by simp [maxLen]) rfl).sr (by simp)).mono ?_
 rintro e w8 ⟨rfl,hg8⟩
 have hs8:=hg8.size
 (try simp at hs8)
 have HG8:=Lib.hid (show Gr w3.heap.size w3 w8 from(show Gr w3.heap.size w3 _ from by(with_reducible (repeat' (first|exact Gr.refl _ _|refine Gr.drew ?_|refine Gr.setCell ?_ ?_ _|refine Gr.alloc ?_ ?_ _|refine Gr.trans ?_ (Gr.mono HG7.out ?_)|omega|(simp;done)|(simp;omega))))).trans (hg8.mono (by first|omega|(simp;done)|(simp;omega))))
 have HV8:=Lib.hid (show IR w8 0 (.slice a4 3 3) [0,2,5]from(HV7.out.gr (by(with_reducible (repeat' (first|exact Gr.refl _ _|refine Gr.drew ?_|refine Gr.setCell ?_ ?_ _|refine Gr.alloc ?_ ?_ _|omega|(simp;done)|(simp;omega)))))).gr hg8)
 obtain ⟨hc8,hf8⟩:=HG8.out.cells
 have hz8:=HG8.out.size
 clear hg8 hc7 hf7
 go_wp2_with fail
 refine(HC.out _ _ (by(with_reducible (repeat' (first|exact Gr.refl _ _|refine Gr.drew ?_|refine Gr.setCell ?_ ?_ _|refine Gr.alloc ?_ ?_ _|refine Gr.trans ?_ (Gr.mono HG8.out ?_)|omega|(simp;done)|(simp;omega))))) (SL.new' (l:= [((0:Nat),(3:Nat),(0:Nat))]) triC_len _ rfl rfl (Nat.zero_le _) (by simp [maxLen]) rfl).sr).mono ?_
 rintro e w9 ⟨v9,rfl,hv9,hb9⟩
 have HB9:=Lib.hid (show Below w3.heap.size w3 w9 from(show Gr w3.heap.size w3 _ from by(with_reducible (repeat' (first|exact Gr.refl _ _|refine Gr.drew ?_|refine Gr.setCell ?_ ?_ _|refine Gr.alloc ?_ ?_ _|refine Gr.trans ?_ (Gr.mono HG8.out ?_)|omega|(simp;done)|(simp;omega))))).below.trans (hb9.mono (by first|omega|(simp;done)|(simp;omega))))
 obtain ⟨hv9,a9,rfl⟩:=hv9
 have HV9:=Lib.hid (show IR w9 0 (.slice a9 3 3) [0,3,6]from⟨hv9.mono (Nat.zero_le _),a9,rfl⟩)
 clear hv9 hb9 hc8 hf8
 have hz9:=HB9.out.size
 go_wp2_with fail
 refine(law_Ints [0,3,6] _ _ _ (HV9.out.gr (by(with_reducible (repeat' (first|exact Gr.refl _ _|refine Gr.drew ?_|refine Gr.setCell ?_ ?_ _|refine Gr.alloc ?_ ?_ _|omega|(simp;done)|(simp;omega)))))) (SL.new' (l:= [0,3,6]) iC_len _ rfl rfl (Nat.zero_le _) (by simp [maxLen]) rfl).sr (by simp)).mono ?_
 rintro e wa ⟨rfl,hga⟩
 have HGA:=Lib.hid (show Gr w9.heap.size w9 wa from(show Gr w9.heap.size w9 _ from by(with_reducible (repeat' (first|exact Gr.refl _ _|refine Gr.drew ?_|refine Gr.setCell ?_ ?_ _|refine Gr.alloc ?_ ?_ _|omega|(simp;done)|(simp;omega))))).trans (hga.mono (by first|omega|(simp;done)|(simp;omega))))
 clear hga
 go_wp2
 go_ret
 exact⟨rfl,(HG2.out.below.trans (HB9.out.mono (by omega))).trans (HGA.out.below.mono (by omega))⟩
end Go.Proofs.YtjijceliboaeaaaGreatDoor
