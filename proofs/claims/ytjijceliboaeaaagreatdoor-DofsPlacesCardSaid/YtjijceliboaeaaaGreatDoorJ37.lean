/-
  Part 37 of the proof: GridD Mesh EdgM DofA HeldL.
-/
import Derived.Test.YtjijceliboaeaaaGreatDoorJ36
import Derived.Test.YtjijceliboaeaaaGreatDoorJ27
import Derived.Test.YtjijceliboaeaaaGreatDoorJ15
import Derived.Test.YtjijceliboaeaaaGreatDoorJ1
set_option linter.unusedSimpArgs false
set_option linter.unusedVariables false
namespace Go.Proofs.YtjijceliboaeaaaGreatDoor
open Go.RowKit Gus Go.Maps
theorem cellK_low {k x y:Nat} {t:T2} (ht:t∈cellK k x y) (hx:x≤10) (hy:y≤10):∀q,hasP t q=true→q.1≤12∧q.2≤12:=by
 intro q hq
 unfold hasP at hq
 simp only [Bool.or_eq_true,beq_iff_eq]at hq
 unfold cellK at ht
 split at ht<;>simp only [List.mem_cons,List.not_mem_nil,or_false]at ht
 ·rcases ht with rfl|rfl<;>rcases hq with(rfl|rfl)|rfl<;>(simp only;omega)
 ·rcases ht with rfl|rfl<;>rcases hq with(rfl|rfl)|rfl<;>(simp only;omega)
 ·rcases ht with rfl|rfl|rfl|rfl<;>rcases hq with(rfl|rfl)|rfl<;>(simp only;omega)
theorem cells_low {nx ny:Nat} (way:Nat→Nat) (hx:nx≤3) (hy:ny≤3):∀t∈cellsL nx ny way,∀q,hasP t q=true→q.1≤60∧q.2≤60:=by
 intro t ht q hq
 unfold cellsL at ht
 rw [List.mem_flatMap]at ht
 obtain ⟨i,hi,ht⟩:=ht
 obtain ⟨h1,h2⟩:=cell_at hx hy (List.mem_range.1 hi)
 have:=cellK_low ht (by omega) (by omega) q hq
 omega
theorem cells_one {nx ny:Nat} (way:Nat→Nat) (h:∀i,way i<8) (hx:0<nx) (hy:0<ny):cellsL nx ny way≠ []:=by
 have h0:0∈List.range (nx*ny):=List.mem_range.2 (Nat.mul_pos hx hy)
 have h1:kindW (way 0) 0<3:=by
  have:=h 0
  unfold kindW
  split
  ·omega
  ·split
   ·omega
   ·split<;>omega
 intro e
 unfold cellsL at e
 rw [List.flatMap_eq_nil_iff]at e
 have h2:=e 0 h0
 generalize kindW (way 0) 0=k at *
 rcases(show k=0∨k=1∨k=2 by omega)with rfl|rfl|rfl<;>simp [cellK]at h2
theorem cells_len {nx ny:Nat} (way:Nat→Nat) (hx:nx≤3) (hy:ny≤3):(cellsL nx ny way).length≤36:=by
 have h:=cellsTo_len nx way (nx*ny)
 have h2:nx*ny≤3*3:=Nat.mul_le_mul hx hy
 unfold cellsTo at h
 unfold cellsL
 omega
theorem corners_mem (L:List T2) (q:P2):q∈cornersOf L↔∃t∈L,hasP t q=true:=by
 unfold cornersOf hasP
 rw [List.mem_flatMap]
 simp only [List.mem_cons,List.not_mem_nil,or_false,Bool.or_eq_true,beq_iff_eq,or_assoc]
 constructor
 ·rintro ⟨t,ht,h⟩
  exact⟨t,ht,by rcases h with h|h|h<;>simp [h]⟩
 ·rintro ⟨t,ht,h⟩
  exact⟨t,ht,by rcases h with h|h|h<;>simp [h]⟩
theorem net_of {nx ny:Nat} {way r:Nat→Nat} (h:∀i,way i<8) (hx0:0<nx) (hy0:0<ny) (hx:nx≤3) (hy:ny≤3):Net (placesOf (cornersOf (turned r (cellsL nx ny way)))) (turned r (cellsL nx ny way)):=by
 have hlen:(turned r (cellsL nx ny way)).length≤36:=by unfold turned;rw [List.length_mapIdx];exact cells_len way hx hy
 refine⟨places_nodup _,turned_pair (cells_pair way hx hy),turned_all (p:=fun t=>posB t=true) (fun t j ht=>by rw [posB_rot];exact ht) (cells_pos way hx hy),fun q=>?_,fun q hq=>?_,?_,hlen,?_⟩
 ·rw [places_mem,corners_mem]
 ·rw [places_mem,corners_mem]at hq
  obtain ⟨t,ht,h1⟩:=hq
  exact turned_all (p:=fun t=> ∀q,hasP t q=true→q.1≤60∧q.2≤60) (fun t j h2 q h3=>h2 q (by rwa [hasP_rot]at h3)) (cells_low way hx hy) t ht q h1
 ·intro e
  have h1:=congrArg List.length e
  unfold turned at h1
  rw [List.length_mapIdx]at h1
  exact cells_one way h hx0 hy0 (List.eq_nil_of_length_eq_zero (by simpa using h1))
 ·have h1:=places_len (cornersOf (turned r (cellsL nx ny way)))
  rw [corners_len]at h1
  omega
theorem rowS_mem (TR:List Tri) (f a b:Nat) (s:Tri):s∈rowS TR f a b↔∃c,c<b∧a<c∧TR.countP (fun t=>has3 t a && has3 t c)=1∧s=(a,c,(a+3*c+f) % 5):=by
 unfold rowS
 simp only [List.mem_map,List.mem_filter,List.mem_range,Bool.and_eq_true,decide_eq_true_eq,beq_iff_eq]
 constructor
 ·rintro ⟨c,⟨h1,h2,h3⟩,rfl⟩
  exact⟨c,h1,h2,h3,rfl⟩
 ·rintro ⟨c,h1,h2,h3,rfl⟩
  exact⟨c,⟨h1,h2,h3⟩,rfl⟩
theorem sdTo_mem (TR:List Tri) (f N a:Nat) (s:Tri):s∈sdTo TR f N a↔∃i c,i<a∧c<N∧i<c∧TR.countP (fun t=>has3 t i && has3 t c)=1∧s=(i,c,(i+3*c+f) % 5):=by
 unfold sdTo
 rw [List.mem_flatMap]
 constructor
 ·rintro ⟨i,hi,h⟩
  obtain ⟨c,h1,h2,h3,h4⟩:=(rowS_mem TR f i N s).1 h
  exact⟨i,c,List.mem_range.1 hi,h1,h2,h3,h4⟩
 ·rintro ⟨i,c,hi,h1,h2,h3,h4⟩
  exact⟨i,List.mem_range.2 hi,(rowS_mem TR f i N s).2 ⟨c,h1,h2,h3,h4⟩⟩
theorem rimOk_sd {N:Nat} {TR:List Tri} (hl:∀t∈TR,goodT N t) (f:Nat):RimOk TR (sdTo TR f N N):=by
 constructor
 ·rw [List.pairwise_map]
  unfold sdTo
  rw [List.pairwise_flatMap]
  constructor
  ·intro i _
   unfold rowS
   rw [List.pairwise_map]
   refine List.Pairwise.imp ?_ (List.Pairwise.filter _ List.pairwise_lt_range)
   intro a b hab
   exact .inr ⟨rfl,by simp only;omega⟩
  ·refine List.Pairwise.imp ?_ List.pairwise_lt_range
   intro i j hij s hs s' hs'
   obtain ⟨c,_,_,_,rfl⟩:=(rowS_mem TR f i N s).1 hs
   obtain ⟨c',_,_,_,rfl⟩:=(rowS_mem TR f j N s').1 hs'
   exact .inl (by simp only;omega)
 ·intro a b
  constructor
  ·intro h
   obtain ⟨s,hs,h1⟩:=List.mem_map.1 h
   obtain ⟨i,c,h2,h3,h4,h5,rfl⟩:=(sdTo_mem TR f N N s).1 hs
   simp only [Prod.mk.injEq]at h1
   obtain rfl:i=a:=by omega
   obtain rfl:c=b:=by omega
   exact⟨h4,h5⟩
  ·rintro ⟨hab,hc⟩
   have h1:0<TR.countP fun t=>has3 t a && has3 t b:=by omega
   rw [List.countP_pos_iff]at h1
   obtain ⟨t,ht,h2⟩:=h1
   obtain ⟨g1,g2,g3,_⟩:=hl t ht
   unfold has3 at h2
   simp only [Bool.and_eq_true,Bool.or_eq_true,beq_iff_eq]at h2
   have hbN:b<N:=by omega
   exact List.mem_map.2 ⟨(a,b,(a+3*b+f) % 5),(sdTo_mem TR f N N _).2 ⟨a,b,by omega,hbN,hab,hc,rfl⟩,rfl⟩
end Go.Proofs.YtjijceliboaeaaaGreatDoor
namespace Go.Proofs.YtjijceliboaeaaaGreatDoor
open Go.RowKit Gus Go.Maps
structure RawM where
 nx:Nat
 ny:Nat
 den:Nat
 fi:Nat
 m0:Int
 m1:Int
 m2:Int
 m3:Int
 bs:List Nat
structure RawM.Ok (x:RawM):Prop where
 nx:x.nx<256
 ny:x.ny<256
 den:x.den<256
 fi:x.fi<256
 bs:∀b∈x.bs,b<256
def RawM.cells (x:RawM):List T2:=cellsL (1+x.nx % 3) (1+x.ny % 3) (wayOf x.bs)
def RawM.L (x:RawM):List T2:=turned (fun t=>x.fi+t*(x.fi / 3)) x.cells
def RawM.P (x:RawM):List P2:=placesOf (cornersOf x.L)
def RawM.k (x:RawM):K4:=mapK x.m0 x.m1 x.m2 x.m3
def RawM.d (x:RawM):Nat:=1+x.den % 6
def RawM.tris (x:RawM):List Tri:=x.L.map (triOf x.P)
def RawM.sd (x:RawM):List Tri:=sdTo x.tris x.fi x.P.length x.P.length
def RawM.mesh (x:RawM):Msh:=meshOf x.k x.d x.P x.L x.sd
abbrev rawC (x:RawM) (v:Value):List Value:= [.int .u8 (x.nx:Int),.int .u8 (x.ny:Int),v,.int .i8 x.m0,.int .i8 x.m1,.int .i8 x.m2,.int .i8 x.m3,.int .u8 (x.den:Int),.int .u8 (x.fi:Int)]
theorem RawM.net (x:RawM):Net x.P x.L:=net_of (way_lt x.bs) (by omega) (by omega) (by omega) (by omega)
theorem RawM.det (x:RawM):0<det4 x.k:=det_kfix _ _ _ _
theorem RawM.smallK (x:RawM):smallK x.k:=by
 have h:=kfix_small (tmod4_small x.m0) (tmod4_small x.m1) (tmod4_small x.m2) (tmod4_small x.m3)
 unfold small at h
 obtain ⟨h1,h2,h3,h4⟩:=h
 refine⟨?_,?_,?_,?_⟩<;>(unfold RawM.k mapK;omega)
theorem RawM.d_pos (x:RawM):0<x.d∧x.d<4294967296:=by unfold RawM.d;omega
theorem RawM.good (x:RawM):∀t∈x.tris,goodT x.P.length t:=by
 intro t ht
 obtain ⟨u,hu,rfl⟩:=List.mem_map.1 ht
 exact x.net.goodT hu
theorem RawM.rim (x:RawM):RimOk x.tris x.sd:=rimOk_sd x.good x.fi
theorem RawM.side (x:RawM):∀s∈x.sd,s.1<x.P.length∧s.2.1<x.P.length∧s.2.2≤255:=by
 intro s hs
 obtain ⟨i,c,h1,h2,h3,h4,rfl⟩:=(sdTo_mem _ _ _ _ s).1 hs
 exact⟨h1,h2,by simp only;omega⟩
theorem RawM.sd_len (x:RawM):x.sd.length≤24576:=by
 have h:=sdTo_len x.tris x.fi x.P.length x.P.length
 have h2:=x.net.fewP
 have h3:x.P.length*x.P.length≤108*108:=Nat.mul_le_mul h2 h2
 unfold RawM.sd
 omega
theorem m_Mesh (x:RawM) (hx:x.Ok) (v:Value) (w:World) (hS:BS w v x.bs):
  Calls Tryz.prog 4 #[.agg #[.int .u8 (x.nx:Int),.int .u8 (x.ny:Int),v,.int .i8 x.m0,.int .i8 x.m1,.int .i8 x.m2,.int .i8 x.m3,.int .u8 (x.den:Int),.int .u8 (x.fi:Int)]] w (fun e w'=> ∃a b c,e= .returned (.agg #[a,b,c])∧MS w' w.heap.size a b c x.mesh∧Gr w.heap.size w w'):=by
 obtain ⟨mv,hmv⟩:∃mv:P2→Int×Int,∀p,mv p=((mapK x.m0 x.m1 x.m2 x.m3).1*p.1+(mapK x.m0 x.m1 x.m2 x.m3).2.1*p.2,(mapK x.m0 x.m1 x.m2 x.m3).2.2.1*p.1+(mapK x.m0 x.m1 x.m2 x.m3).2.2.2*p.2):=⟨_,fun _=>rfl⟩
 have hP:=x.net.fewP
 have hL:=x.net.few
 have hlow:=x.net.low
 have hk:=x.smallK
 have h:=ms_Mesh x.nx x.ny x.den x.fi x.m0 x.m1 x.m2 x.m3 v x.bs w hx.den hS (x.P.map mv) x.tris x.sd (by simp;omega) (by simp [RawM.tris];omega) (by have:=x.sd_len;omega) (fun q hq=>by
   obtain ⟨p,hp,rfl⟩:=List.mem_map.1 hq
   have a:=lin_bound hk.1 hk.2.1 (hlow p hp).1 (hlow p hp).2
   have b:=lin_bound hk.2.2.1 hk.2.2.2 (hlow p hp).1 (hlow p hp).2
   rw [hmv]
   exact⟨a.1,a.2,b.1,b.2⟩)
  (fun W hW=>ms_whole x.nx x.ny x.den x.fi x.m0 x.m1 x.m2 x.m3 v x.bs W hx.nx hx.ny hx.fi (hS.gr hW) hx.bs x.cells x.L rfl rfl (cells_len _ (by omega) (by omega)) (fun p hp=>hlow p ((places_mem _ _).2 hp)) mv hmv)
 refine h.mono ?_
 rintro e w' ⟨a,b,c,rfl,hM,hg⟩
 refine⟨a,b,c,rfl,?_,hg⟩
 have e1:(x.P.map mv).map (ptq (1+x.den % 6))=x.P.map (ptM x.k x.d):=by
  rw [List.map_map]
  refine List.map_congr_left fun p _=>?_
  simp only [Function.comp,ptq,hmv]
  rfl
 rw [e1]at hM
 exact hM
theorem m_Check (x:RawM) (a b c:Value) (w:World) (hM:MS w 0 a b c x.mesh):Calls Tryz.prog 15 #[.agg #[a,b,c]] w (Ret w (.int .i64 0)):=
 ms_CheckG x.net x.det x.smallK x.d_pos.1 x.d_pos.2 x.side x.sd_len x.rim a b c w hM
end Go.Proofs.YtjijceliboaeaaaGreatDoor
namespace Go.Proofs.YtjijceliboaeaaaGreatDoor
open Go.RowKit Gus Go.Maps
set_option maxRecDepth 20000 in
set_option maxHeartbeats 8000000 in
theorem ms_Numbered (m:Msh) (vp vt vs:Value) (w:World) (hM:MS w 0 vp vt vs m) (hl:∀t∈m.tris,goodT m.pts.length t):Calls Tryz.prog 23 #[.agg #[vp,vt,vs]] w (Ret w (.bool true)):=by
 obtain ⟨hP,hT,hS⟩:=hM
 obtain ⟨ap,cp,rfl⟩:=hP.at
 have hN:=Lib.hid (fun W (hW:Gr w.heap.size w W)=>ms_numbered m.tris m.pts.length vt W (hT.gr hW) hl)
 clear hP hT hS hl
 go_enter Tryz.func23,Tryz.ntmps23
 go_wp2_with fail
 (refine(hN.out _ (by(with_reducible (repeat' (first|exact Gr.refl _ _|refine Gr.drew ?_|refine Gr.setCell ?_ ?_ _|refine Gr.alloc ?_ ?_ _|omega|(simp;done)|(simp;omega)))))).mono ?_;rintro e w1 ⟨rfl,hg1⟩;(try (with_reducible replace hg1:=Gr.of_drew hg1));have hsz1:=hg1.size;(try simp at hsz1);have hz1_0:w.heap.size<w1.heap.size:=(by omega);obtain ⟨hc1,hf1⟩:=hg1.cells;have HG1:=Lib.hid hg1;clear hg1)
 go_wp2
 go_ret
 exact⟨rfl,by(with_reducible (repeat' (first|exact Gr.refl _ _|refine Gr.drew ?_|refine Gr.setCell ?_ ?_ _|refine Gr.alloc ?_ ?_ _|refine Gr.trans ?_ (Gr.mono HG1.out ?_)|omega|(simp;done)|(simp;omega))))⟩
set_option maxRecDepth 20000 in
set_option maxHeartbeats 8000000 in
theorem ms_EdgesG (m:Msh) (vp vt vs:Value) (w:World) (hM:MS w 0 vp vt vs m) (hN:m.pts.length≤1000000) (hl:∀t∈m.tris,goodT m.pts.length t) (hn:m.tris.length≤1000000) (hne0:m.tris≠ []):
  Calls Tryz.prog 7 #[.agg #[vp,vt,vs]] w (fun e w'=> ∃v',e= .returned v'∧∃es,SR eC 4 84 w' w.heap.size v' es∧es.Perm (stE m.tris m.tris.length)∧es.Pairwise (fun a b=> ¬ordE b a<0)∧Gr w.heap.size w w'):=by
 have hA:=Lib.hid (fun W (hW:Gr w.heap.size w W)=>ms_Numbered m vp vt vs W (hM.gr hW) hl)
 have hB:=Lib.hid (fun W (hW:Gr w.heap.size w W)=>ms_edgesG vt W m.tris m.pts.length (by omega) (hM.2.1.gr hW) hl hn hne0)
 clear hM hl hn hne0 hN
 go_enter Tryz.func7,Tryz.ntmps7
 go_wp2_with fail
 refine(hA.out _ (by(with_reducible (repeat' (first|exact Gr.refl _ _|refine Gr.drew ?_|refine Gr.setCell ?_ ?_ _|refine Gr.alloc ?_ ?_ _|omega|(simp;done)|(simp;omega)))))).mono ?_
 rintro e w1 ⟨rfl,hg1⟩
 have hsz1:=hg1.size
 (try simp at hsz1)
 have hz1_0:w.heap.size<w1.heap.size:=(by omega)
 obtain ⟨hc1,hf1⟩:=hg1.cells
 have HG1:=Lib.hid hg1
 clear hg1
 go_wp2_with fail
 refine(hB.out _ (by(with_reducible (repeat' (first|exact Gr.refl _ _|refine Gr.drew ?_|refine Gr.setCell ?_ ?_ _|refine Gr.alloc ?_ ?_ _|refine Gr.trans ?_ (Gr.mono HG1.out ?_)|omega|(simp;done)|(simp;omega)))))).mono ?_
 rintro e w2 ⟨v',rfl,es,h1,h2,h3,hg2⟩
 have HG2:=Lib.hid hg2
 have hsz2:=hg2.size
 (try simp at hsz2)
 clear hg2
 have hwz:w.heap.size<w1.heap.size:=hz1_0
 go_wp2
 go_ret
 exact⟨v',rfl,es,h1.mono (by first|omega|(simp;done)|(simp;omega)),h2,h3,Gr.trans (by(with_reducible (repeat' (first|exact Gr.refl _ _|refine Gr.drew ?_|refine Gr.setCell ?_ ?_ _|refine Gr.alloc ?_ ?_ _|refine Gr.trans ?_ (Gr.mono HG1.out ?_)|omega|(simp;done)|(simp;omega))))) (Gr.mono HG2.out (by omega))⟩
theorem info_P2:(Tryz.prog.info? 85).map (·.size)=some 2:=by kernel_rfl
set_option maxRecDepth 20000 in
set_option maxHeartbeats 8000000 in
theorem df_pair (a b:Nat) (w:World):Calls Tryz.prog 18 #[.int .i64 (a:Int),.int .i64 (b:Int)] w (Ret w (.agg #[.int .i64 ((min a b:Nat):Int),.int .i64 ((max a b:Nat):Int)])):=by
 have e1:((min a b:Nat):Int)=min (a:Int) (b:Int):=by omega
 have e2:((max a b:Nat):Int)=max (a:Int) (b:Int):=by omega
 go_enter Tryz.func18,Tryz.ntmps18
 go_wp2
 rw [e1,e2]
 refine ret_row (g:=w.heap.size) (cs:= [.int .i64 (min (a:Int) (b:Int)),.int .i64 (max (a:Int) (b:Int))]) Tryz.results18 rfl ?_ Tryz.underlying85 rfl info_P2 rfl ⟨rfl,?_⟩
 ·(with_reducible (repeat' (first|(refine VB.new' ?_;exact(by first|omega|(simp;done)|(simp;omega)))|apply VB.put2|apply VB.put3|apply VB.put5|refine VB.drew ?_|refine VB.far ?_ ?_ _|refine VB.alloc ?_ _|omega|(simp;done)|(simp;omega))))
 ·(with_reducible (repeat' (first|exact Gr.refl _ _|refine Gr.drew ?_|refine Gr.setCell ?_ ?_ _|refine Gr.alloc ?_ ?_ _|omega|(simp;done)|(simp;omega))))
end Go.Proofs.YtjijceliboaeaaaGreatDoor
namespace Go.Proofs.YtjijceliboaeaaaGreatDoor
open Go.RowKit Gus Go.Maps
noncomputable def kP:TypeId:=((Tryz.prog.underlying 82).bind fun| .map k _=>some k|_=>none).getD 0
theorem under_P:Tryz.prog.underlying 82=some (.map kP 3):=by kernel_rfl
theorem keyed_P:Keyed Tryz.prog kP:=Keyed.of_law (deep_law_laid (m:=9) (by kernel_rfl) (by omega) (of_decide_eq_true (by kernel_rfl)) (by kernel_rfl) (by kernel_rfl))
theorem keyOf_funP:(fun i j:Int=>keyOf Tryz.prog kP (.agg #[.int .i64 i,.int .i64 j]))=fun i j=>Option.map (fun ls=>Lit.string (keyBytes ls)) (Option.map List.flatten ([[Value.int .i64 i],[Value.int .i64 j]].mapM fun v=>Tryz.prog.keyLits 5 3 v)):=by kernel_rfl
theorem keyOf_P {i j:Nat} (hi:i<9223372036854775808) (hj:j<9223372036854775808):keyOf Tryz.prog kP (.agg #[.int .i64 (i:Int),.int .i64 (j:Int)])=some (klT i j):=by
 have h:=congrFun (congrFun keyOf_funP i) j
 simp only [List.mapM_cons,List.mapM_nil,keyLits_int 4 _ (wf_nat hi),keyLits_int 4 _ (wf_nat hj)]at h
 exact h
def numP (n:Nat) (l:List Edg):List (Value×Value):=l.zipIdx.map fun e=>(endK e.1.a e.1.b,.int .i64 ((n+e.2:Nat):Int))
abbrev MIP (w:World) (b n:Nat) (l:List Edg):Prop:=MI Tryz.prog kP w b (numP n l)
theorem numP_snoc (n:Nat) (l:List Edg) (e:Edg):numP n (l++ [e])=numP n l++ [(endK e.a e.b,.int .i64 ((n+l.length:Nat):Int))]:=by
 simp [numP,List.zipIdx_append]
theorem numP_len (n:Nat) (l:List Edg):(numP n l).length=l.length:=by simp [numP]
theorem numP_miss {n:Nat} {l:List Edg} {a b:Int} (h:∀e∈l,¬(e.a=a∧e.b=b)):∀p∈numP n l,p.1≠endK a b:=by
 intro p hp e1
 obtain ⟨⟨e,i⟩,he,rfl⟩:=List.mem_map.1 hp
 have hm:e∈l:=(List.mem_iff_getElem?.2 ⟨i,(List.mem_zipIdx_iff_getElem?.1 he)⟩)
 refine h e hm ?_
 simpa [endK] using e1
theorem numP_mem {n:Nat} {l:List Edg} {i:Nat} {e:Edg} (h:l[i]? =some e):(endK e.a e.b,Value.int .i64 ((n+i:Nat):Int))∈numP n l:=
 List.mem_map.2 ⟨(e,i),List.mem_zipIdx_iff_getElem?.2 h,rfl⟩
abbrev iC (n:Nat):List Value:= [.int .i64 (n:Int)]
theorem iC_len (n:Nat):(iC n).length=1:=rfl
theorem iC_one (n:Nat):∀v∈iC n,v.oneCell'=true:=by simp [Value.oneCell']
def RW (w:World) (B:Nat) (v:Value) (l:List (List Nat)):Prop:=
 ∃rs:List Value,SR (fun v=> [v]) 1 58 w B v rs∧rs.length=l.length∧∀(i:Nat) (r:Value) (x:List Nat),rs[i]? =some r→l[i]? =some x→SR iC 1 3 w B r x
theorem info_bInt1:(Tryz.prog.info? 3).map (fun i=>(i.zero,i.size,i.bytes))=some (some (.int .i64 0),1,8):=by kernel_rfl
theorem info_bInts:(Tryz.prog.info? 58).map (fun i=>(i.zero,i.size,i.bytes))=some (some (.slice none 0 0),1,24):=by kernel_rfl
theorem info_bPair:(Tryz.prog.info? 85).map (fun i=>(i.zero,i.size,i.bytes))=some (some (.agg #[.int .i64 0,.int .i64 0]),2,16):=by kernel_rfl
set_option maxRecDepth 20000 in
set_option maxHeartbeats 4000000 in
theorem clipV_I (a:Option Addr) (n c:Nat) (w:World) (h1:n≤c) (_h2:c≤9223372036854775807):Calls Tryz.prog 19 #[.slice a n c] w (Ret w (.slice a n n)):=by
 go_enter Tryz.func19,Tryz.ntmps19
 go_wp2
 go_ret
 exact⟨rfl,Gr.refl _ _⟩
set_option maxRecDepth 20000 in
set_option maxHeartbeats 4000000 in
theorem clipV_II (a:Option Addr) (n c:Nat) (w:World) (h1:n≤c) (_h2:c≤9223372036854775807):Calls Tryz.prog 20 #[.slice a n c] w (Ret w (.slice a n n)):=by
 go_enter Tryz.func20,Tryz.ntmps20
 go_wp2
 go_ret
 exact⟨rfl,Gr.refl _ _⟩
set_option maxRecDepth 20000 in
set_option maxHeartbeats 4000000 in
theorem clipV_P (a:Option Addr) (n c:Nat) (w:World) (h1:n≤c) (_h2:c≤9223372036854775807):Calls Tryz.prog 21 #[.slice a n c] w (Ret w (.slice a n n)):=by
 go_enter Tryz.func21,Tryz.ntmps21
 go_wp2
 go_ret
 exact⟨rfl,Gr.refl _ _⟩
set_option maxRecDepth 20000 in
set_option maxHeartbeats 4000000 in
theorem clipV_K (a:Option Addr) (n c:Nat) (w:World) (h1:n≤c) (_h2:c≤9223372036854775807):Calls Tryz.prog 22 #[.slice a n c] w (Ret w (.slice a n n)):=by
 go_enter Tryz.func22,Tryz.ntmps22
 go_wp2
 go_ret
 exact⟨rfl,Gr.refl _ _⟩
end Go.Proofs.YtjijceliboaeaaaGreatDoor
namespace Go.Proofs.YtjijceliboaeaaaGreatDoor
open Go.RowKit
section
variable {P:Program} {ops:Array Oper} {Q:Exit→Act→World→Prop} {md:Region.Mode} {S:World→Prop} {st:Nat}
def AnyL (P:Program) (md:Region.Mode) (ops:Array Oper) (Q:Exit→Act→World→Prop) (S:World→Prop) (st:Nat):Nat→Array Bool→Act→World→Prop
 | 0,listed,a,w=>Region.ready md ops listed= []∧Q .normal a w
 | fuel+1,listed,a,w=>
  (Region.ready md ops listed= []→Q .normal a w)∧
  ∀i∈Region.ready md ops listed,wpOp P ops Q i (fun a' w'=>((listed.setIfInBounds i true).getD st false=false→S w')∧AnyL P md ops Q S st fuel (listed.setIfInBounds i true) a' w') a w
theorem AnyL.any:∀(fuel:Nat) (listed:Array Bool) (a:Act) (w:World),AnyL P md ops Q S st fuel listed a w→wpAny P md ops Q fuel listed a w
 | 0,_,_,_,h=>h
 | fuel+1,_,_,_,h=>⟨h.1,fun i hi=>wpOp_mono (fun a' w' h'=>AnyL.any fuel _ a' w' h'.2) (h.2 i hi)⟩
theorem AnyL.first {i:Nat} {oi:Oper} {v:Value} (hi:ops[i]? =some oi) (hsel:∀(j:Nat) (o:Oper) cs b,ops[j]? =some o→o.op≠ .select cs b)
  (hQ:∀c a w,Q (.panic c) (a.put oi.dst v) w→Q (.panic c) a w) (hst:∃os,ops[st]? =some os∧∃e∈os.after,Region.binds md e=true∧e.on=i):
  ∀(fuel:Nat) (listed:Array Bool) (a:Act) (w:World),
   (∀j oj,ops[j]? =some oj→j≠i→listed.getD j true=false→(∀e∈oj.after,Region.binds md e=true→e.on≠i)→oi.apart ops oj=true)→
   i∈Region.ready md ops listed→YieldsIf P ops S oi v a→listed.getD st false=false→S w→
   AnyL P md ops Q S st fuel (listed.setIfInBounds i true) (a.put oi.dst v) w→AnyL P md ops Q S st (fuel+1) listed a w:=by
 intro fuel
 have behind:∀ {listed:Array Bool},i∈Region.ready md ops listed→∀e:Edge,e.on=i→¬listed.getD e.on false=true:=by
  intro listed hr e heq h1
  have h0:=(mem_ready.1 hr).1
  rw [heq]at h1
  rcases Nat.lt_or_ge i listed.size with h'|h'
  ·simp [h']at h0 h1;rw [h0]at h1;cases h1
  ·simp [Array.getElem?_eq_none h']at h1
 induction fuel with
 | zero=>
  intro listed a w _ hr hy hls hS H
  refine⟨fun h=>(by rw [h]at hr;cases hr),fun j hj=>?_⟩
  by_cases hji:j=i
  ·subst hji;exact hy.wpOp hi hS ⟨fun _=>hS,H⟩
  ·have:=ready_mono hj hji
   rw [H.1]at this
   cases this
 | succ fuel ih=>
  intro listed a w hfree hr hy hls hS H
  refine⟨fun h=>(by rw [h]at hr;cases hr),fun j hj=>?_⟩
  by_cases hji:j=i
  ·subst hji;exact hy.wpOp hi hS ⟨fun _=>hS,H⟩
  ·have h1:=H.2 j (ready_mono hj hji)
   obtain ⟨hjun,oj,hoj,hall⟩:=mem_ready.1 hj
   have hnot:∀e∈oj.after,Region.binds md e=true→e.on≠i:=fun e he hb heq=>behind hr e heq (hall e he hb)
   have hjst:j≠st:=by
    rintro rfl
    obtain ⟨os,hos,e,he,hb,heq⟩:=hst
    rw [hos]at hoj
    cases hoj
    exact hnot e he hb heq
   have h2:=wpOp_putIf hoj (hfree j oj hoj hji hjun hnot) (fun cs b=>hsel i oi cs b hi) (fun cs b=>hsel j oj cs b hoj) hQ hy h1
   have hfree':∀k ok,ops[k]? =some ok→k≠i→(listed.setIfInBounds j true).getD k true=false→
     (∀e∈ok.after,Region.binds md e=true→e.on≠i)→oi.apart ops ok=true:=fun k ok hk hki hun hno=>by
    refine hfree k ok hk hki ?_ hno
    by_cases hjk:j=k
    ·subst hjk;exact hjun
    ·rw [getD_set_ne true hjk]at hun;exact hun
   have hls2:(listed.setIfInBounds j true).getD st false=false:=by rw [getD_set_ne false hjst];exact hls
   have hls3:((listed.setIfInBounds i true).setIfInBounds j true).getD st false=false:=by
    rw [getD_set_ne false hjst]
    by_cases his:i=st
    ·exfalso
     obtain ⟨os,hos,e,he,hb,heq⟩:=hst
     have:=(mem_ready.1 hr).2
     obtain ⟨o',ho',hall'⟩:=this
     rw [his,hos]at ho'
     cases ho'
     exact behind hr e heq (hall' e he hb)
    ·rw [getD_set_ne false his];exact hls
   refine wpOp_mono (fun a' w' h3=>⟨fun _=>h3.2.1 hls3,ih (listed.setIfInBounds j true) a' w' hfree' (ready_mono hr (Ne.symm hji)) h3.1 hls2 (h3.2.1 hls3) ?_⟩) h2
   rw [Array.setIfInBounds_comm _ _ hji]
   exact h3.2.2
end
section
variable {P:Program} {ops:Array Oper} {Q:Exit→Act→World→Prop} {md:Region.Mode} {S:World→Prop} {st fuel:Nat} {listed:Array Bool} {a:Act} {w:World} {oi:Oper}
def waits (md:Region.Mode) (ops:Array Oper) (st i:Nat):Bool:=match ops[st]? with|some o=>o.after.any fun e=>Region.binds md e && e.on == i|none=>false
theorem waits_spec {i:Nat} (h:waits md ops st i=true):∃os,ops[st]? =some os∧∃e∈os.after,Region.binds md e=true∧e.on=i:=by
 unfold waits at h
 split at h
 ·rename_i o ho
  obtain ⟨e,he,hb⟩:=Array.any_eq_true'.1 h
  simp only [Bool.and_eq_true,beq_iff_eq]at hb
  exact⟨o,ho,e,he,hb⟩
 ·cases h
theorem tkL (i:Nat) (d:Option Tmp) (v:Value) (h:AnyL P md ops Q S st fuel (listed.setIfInBounds i true) (a.put d v) w) (hi:ops[i]? =some oi:=by rfl) (hd:oi.dst=d:=by rfl) (hs:Region.noSelect ops=true:=by kernel_rfl) (hf:Region.free md ops listed i=true:=by kernel_rfl) (hr:(Region.ready md ops listed).contains i=true:=by kernel_rfl)
  (hw:waits md ops st i=true:=by kernel_rfl) (hl:listed.getD st false=false:=by kernel_rfl) (hQ:∀c a w,Q (.panic c) (a.put oi.dst v) w→Q (.panic c) a w:=by exact fun _ _ _ h=>h) (hy:YieldsIf P ops S oi v a:=by exact .inl ⟨by rfl,fun _ h=>by(try dsimp only at h);go_simp⟩) (hS:S w:=by assumption):AnyL P md ops Q S st (fuel+1) listed a w:=by
 subst hd
 exact AnyL.first hi (Region.noSelect_spec hs) hQ (waits_spec hw) fuel listed a w (Region.free_spec hi hf) (by simpa using hr) hy hl hS h
theorem rdL (i:Nat) (h:∀K':Act→World→Prop,Shut (∀a w,S w→(S w→AnyL P md ops Q S st fuel (listed.setIfInBounds i true) a w)→K' a w)→if Region.wanted oi (yielded ops a.tmps)=true then Oper.wp P oi a w K' Q else K' (a.put oi.dst undef) w)
  (hr:Region.ready md ops listed= [i]:=by kernel_rfl) (ho:ops[i]? =some oi:=by rfl):AnyL P md ops Q S st (fuel+1) listed a w:=
 ⟨fun h0=>(by rw [hr]at h0;cases h0),fun j hj=>by
  rw [hr,List.mem_singleton]at hj
  subst hj
  exact wpOp_step ho (fun K' hK=>h K' (fun a w hS hW=>hK a w ⟨fun _=>hS,hW hS⟩))⟩
theorem rdE (i:Nat) (h:∀K':Act→World→Prop,Shut (∀a w,AnyL P md ops Q S st fuel (listed.setIfInBounds i true) a w→K' a w)→if Region.wanted oi (yielded ops a.tmps)=true then Oper.wp P oi a w K' Q else K' (a.put oi.dst undef) w)
  (hl:(listed.setIfInBounds i true).getD st false=true:=by kernel_rfl) (hr:Region.ready md ops listed= [i]:=by kernel_rfl) (ho:ops[i]? =some oi:=by rfl):AnyL P md ops Q S st (fuel+1) listed a w:=
 ⟨fun h0=>(by rw [hr]at h0;cases h0),fun j hj=>by
  rw [hr,List.mem_singleton]at hj
  subst hj
  exact wpOp_step ho (fun K' hK=>h K' (fun a w hW=>hK a w ⟨fun h0=>(by rw [hl]at h0;cases h0),hW⟩))⟩
theorem AnyL.done {listed:Array Bool} {a:Act} {w:World} (hr:Region.ready md ops listed= []) (h:Q .normal a w):∀fuel,AnyL P md ops Q S st fuel listed a w
 | 0=>⟨hr,h⟩
 | _+1=>⟨fun _=>h,by rw [hr];simp⟩
theorem wp_region_L (st:Nat) {id:Nat} (hm:P.follows .mixedOrders=true) (hS:S w.drew) (h:S w.drew→AnyL P .any ops Q S st ops.size (Array.replicate ops.size false) a w.drew):(Code.region id ops true).wp P Q a w:=
 wp_region_any hm (AnyL.any _ _ _ _ (h hS))
end
end Go.Proofs.YtjijceliboaeaaaGreatDoor
