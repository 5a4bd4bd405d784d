/-
  Part 38 of the proof: Mesh EdgM EsM AgainB.
-/
import Derived.Test.YtfgmdhjmgdccdaaGreatJ37
import Derived.Test.YtfgmdhjmgdccdaaGreatJ20
import Derived.Test.YtfgmdhjmgdccdaaGreatJ14
import Derived.Test.YtfgmdhjmgdccdaaGreatJ22
import Derived.Test.YtfgmdhjmgdccdaaGreatJ2
import Derived.ReadAgain
import Derived.ChangeBook
import Derived.ChangeOld
import Derived.Deep.Slices
set_option linter.unusedSimpArgs false
set_option linter.unusedVariables false
namespace Go.Proofs.YtfgmdhjmgdccdaaGreat
open Go.RowKit Gus Go.Maps
structure RawM where
 nx:Nat
 ny:Nat
 den:Nat
 fi:Nat
 m0:Int
 m1:Int
 m2:Int
 m3:Int
 bs:List Nat
structure RawM.Ok (x:RawM):Prop where
 nx:x.nx<256
 ny:x.ny<256
 den:x.den<256
 fi:x.fi<256
 bs:∀b∈x.bs,b<256
def RawM.cells (x:RawM):List T2:=cellsL (1+x.nx % 3) (1+x.ny % 3) (wayOf x.bs)
def RawM.L (x:RawM):List T2:=turned (fun t=>x.fi+t*(x.fi / 3)) x.cells
def RawM.P (x:RawM):List P2:=placesOf (cornersOf x.L)
def RawM.k (x:RawM):K4:=mapK x.m0 x.m1 x.m2 x.m3
def RawM.d (x:RawM):Nat:=1+x.den % 6
def RawM.tris (x:RawM):List Tri:=x.L.map (triOf x.P)
def RawM.sd (x:RawM):List Tri:=sdTo x.tris x.fi x.P.length x.P.length
def RawM.mesh (x:RawM):Msh:=meshOf x.k x.d x.P x.L x.sd
abbrev rawC (x:RawM) (v:Value):List Value:= [.int .u8 (x.nx:Int),.int .u8 (x.ny:Int),v,.int .i8 x.m0,.int .i8 x.m1,.int .i8 x.m2,.int .i8 x.m3,.int .u8 (x.den:Int),.int .u8 (x.fi:Int)]
theorem RawM.net (x:RawM):Net x.P x.L:=net_of (way_lt x.bs) (by omega) (by omega) (by omega) (by omega)
theorem RawM.det (x:RawM):0<det4 x.k:=det_kfix _ _ _ _
theorem RawM.smallK (x:RawM):smallK x.k:=by
 have h:=kfix_small (tmod4_small x.m0) (tmod4_small x.m1) (tmod4_small x.m2) (tmod4_small x.m3)
 unfold small at h
 obtain ⟨h1,h2,h3,h4⟩:=h
 refine⟨?_,?_,?_,?_⟩<;>(unfold RawM.k mapK;omega)
theorem RawM.d_pos (x:RawM):0<x.d∧x.d<4294967296:=by unfold RawM.d;omega
theorem RawM.good (x:RawM):∀t∈x.tris,goodT x.P.length t:=by
 intro t ht
 obtain ⟨u,hu,rfl⟩:=List.mem_map.1 ht
 exact x.net.goodT hu
theorem RawM.rim (x:RawM):RimOk x.tris x.sd:=rimOk_sd x.good x.fi
theorem RawM.side (x:RawM):∀s∈x.sd,s.1<x.P.length∧s.2.1<x.P.length∧s.2.2≤255:=by
 intro s hs
 obtain ⟨i,c,h1,h2,h3,h4,rfl⟩:=(sdTo_mem _ _ _ _ s).1 hs
 exact⟨h1,h2,by simp only;omega⟩
theorem RawM.sd_len (x:RawM):x.sd.length≤24576:=by
 have h:=sdTo_len x.tris x.fi x.P.length x.P.length
 have h2:=x.net.fewP
 have h3:x.P.length*x.P.length≤108*108:=Nat.mul_le_mul h2 h2
 unfold RawM.sd
 omega
theorem m_Mesh (x:RawM) (hx:x.Ok) (v:Value) (w:World) (hS:BS w v x.bs):
  Calls Tryz.prog 20 #[.agg #[.int .u8 (x.nx:Int),.int .u8 (x.ny:Int),v,.int .i8 x.m0,.int .i8 x.m1,.int .i8 x.m2,.int .i8 x.m3,.int .u8 (x.den:Int),.int .u8 (x.fi:Int)]] w (fun e w'=> ∃a b c,e= .returned (.agg #[a,b,c])∧MS w' w.heap.size a b c x.mesh∧Gr w.heap.size w w'):=by
 obtain ⟨mv,hmv⟩:∃mv:P2→Int×Int,∀p,mv p=((mapK x.m0 x.m1 x.m2 x.m3).1*p.1+(mapK x.m0 x.m1 x.m2 x.m3).2.1*p.2,(mapK x.m0 x.m1 x.m2 x.m3).2.2.1*p.1+(mapK x.m0 x.m1 x.m2 x.m3).2.2.2*p.2):=⟨_,fun _=>rfl⟩
 have hP:=x.net.fewP
 have hL:=x.net.few
 have hlow:=x.net.low
 have hk:=x.smallK
 have h:=ms_Mesh x.nx x.ny x.den x.fi x.m0 x.m1 x.m2 x.m3 v x.bs w hx.den hS (x.P.map mv) x.tris x.sd (by simp;omega) (by simp [RawM.tris];omega) (by have:=x.sd_len;omega) (fun q hq=>by
   obtain ⟨p,hp,rfl⟩:=List.mem_map.1 hq
   have a:=lin_bound hk.1 hk.2.1 (hlow p hp).1 (hlow p hp).2
   have b:=lin_bound hk.2.2.1 hk.2.2.2 (hlow p hp).1 (hlow p hp).2
   rw [hmv]
   exact⟨a.1,a.2,b.1,b.2⟩)
  (fun W hW=>ms_whole x.nx x.ny x.den x.fi x.m0 x.m1 x.m2 x.m3 v x.bs W hx.nx hx.ny hx.fi (hS.gr hW) hx.bs x.cells x.L rfl rfl (cells_len _ (by omega) (by omega)) (fun p hp=>hlow p ((places_mem _ _).2 hp)) mv hmv)
 refine h.mono ?_
 rintro e w' ⟨a,b,c,rfl,hM,hg⟩
 refine⟨a,b,c,rfl,?_,hg⟩
 have e1:(x.P.map mv).map (ptq (1+x.den % 6))=x.P.map (ptM x.k x.d):=by
  rw [List.map_map]
  refine List.map_congr_left fun p _=>?_
  simp only [Function.comp,ptq,hmv]
  rfl
 rw [e1]at hM
 exact hM
theorem m_Check (x:RawM) (a b c:Value) (w:World) (hM:MS w 0 a b c x.mesh):Calls Tryz.prog 56 #[.agg #[a,b,c]] w (Ret w (.int .i64 0)):=
 ms_CheckG x.net x.det x.smallK x.d_pos.1 x.d_pos.2 x.side x.sd_len x.rim a b c w hM
end Go.Proofs.YtfgmdhjmgdccdaaGreat
namespace Go.Proofs.YtfgmdhjmgdccdaaGreat
open Go.RowKit Gus Go.Maps
set_option maxRecDepth 20000 in
set_option maxHeartbeats 8000000 in
theorem ms_Numbered (m:Msh) (vp vt vs:Value) (w:World) (hM:MS w 0 vp vt vs m) (hl:∀t∈m.tris,goodT m.pts.length t):Calls Tryz.prog 30 #[.agg #[vp,vt,vs]] w (Ret w (.bool true)):=by
 obtain ⟨hP,hT,hS⟩:=hM
 obtain ⟨ap,cp,rfl⟩:=hP.at
 have hN:=Lib.hid (fun W (hW:Gr w.heap.size w W)=>ms_numbered m.tris m.pts.length vt W (hT.gr hW) hl)
 clear hP hT hS hl
 go_enter Tryz.func30,Tryz.ntmps30
 go_wp2_with fail
 (refine rtt (hN.out _ (by exact gzz)) fun w1 hsz1 hc1 hf1 HG1=>?_;(try simp at hsz1);have hz1_0:w.heap.size<w1.heap.size:=(by omega))
 go_wp2
 go_ret
 exact⟨rfl,by exact gcc HG1 gzz⟩
set_option maxRecDepth 20000 in
set_option maxHeartbeats 8000000 in
theorem ms_EdgesG (m:Msh) (vp vt vs:Value) (w:World) (hM:MS w 0 vp vt vs m) (hN:m.pts.length≤1000000) (hl:∀t∈m.tris,goodT m.pts.length t) (hn:m.tris.length≤1000000) (hne0:m.tris≠ []):
  Calls Tryz.prog 7 #[.agg #[vp,vt,vs]] w (fun e w'=> ∃v',e= .returned v'∧∃es,SR eC 4 44 w' w.heap.size v' es∧es.Perm (stE m.tris m.tris.length)∧es.Pairwise (fun a b=> ¬ordE b a<0)∧Gr w.heap.size w w'):=by
 have hA:=Lib.hid (fun W (hW:Gr w.heap.size w W)=>ms_Numbered m vp vt vs W (hM.gr hW) hl)
 have hB:=Lib.hid (fun W (hW:Gr w.heap.size w W)=>ms_edgesG vt W m.tris m.pts.length (by omega) (hM.2.1.gr hW) hl hn hne0)
 clear hM hl hn hne0 hN
 go_enter Tryz.func7,Tryz.ntmps7
 go_wp2_with fail
 refine(hA.out _ (by exact gzz)).mono ?_
 rintro e w1 ⟨rfl,hg1⟩
 have hsz1:=hg1.size
 (try simp at hsz1)
 have hz1_0:w.heap.size<w1.heap.size:=(by omega)
 obtain ⟨hc1,hf1⟩:=hg1.cells
 have HG1:=Lib.hid hg1
 clear hg1
 go_wp2_with fail
 refine(hB.out _ (by exact gcc HG1 gzz)).mono ?_
 rintro e w2 ⟨v',rfl,es,h1,h2,h3,hg2⟩
 have HG2:=Lib.hid hg2
 have hsz2:=hg2.size
 (try simp at hsz2)
 clear hg2
 have hwz:w.heap.size<w1.heap.size:=hz1_0
 go_wp2
 go_ret
 exact⟨v',rfl,es,h1.mono (by first|omega|(simp;done)|(simp;omega)),h2,h3,Gr.trans (by exact gcc HG1 gzz) (Gr.mono HG2.out (by omega))⟩
end Go.Proofs.YtfgmdhjmgdccdaaGreat
namespace Go.Proofs.YtfgmdhjmgdccdaaGreat
open Go.RowKit Gus Go.Maps
def esM (l:List Tri):List Edg:=(stE l l.length).mergeSort fun a b=> !decide (ordE b a<0)
theorem esM_perm (l:List Tri):(esM l).Perm (stE l l.length):=List.mergeSort_perm _ _
theorem esM_sorted (l:List Tri):(esM l).Pairwise fun a b=> ¬ordE b a<0:=by
 refine(List.pairwise_mergeSort (le:=fun a b=> !decide (ordE b a<0)) ?_ ?_ _).imp (fun {a b} h=>by simpa using h)
 ·intro a b c h1 h2
  simp only [Bool.not_eq_true',decide_eq_false_iff_not,ordE_lt]at h1 h2 ⊢
  omega
 ·intro a b
  simp only [Bool.or_eq_true,Bool.not_eq_true',decide_eq_false_iff_not,ordE_lt]
  omega
theorem esM_ends (l:List Tri):(ends (esM l)).Nodup:=((esM_perm l).map _).nodup_iff.2 (stE_nodup l l.length)
theorem esM_len (l:List Tri):(esM l).length≤3*l.length:=by rw [(esM_perm l).length_eq];exact stE_len _ _
theorem esM_Ends {N:Nat} {l:List Tri} (hl:∀t∈l,goodT N t):Ends N (esM l):=fun e he=>stE_ends hl l.length e ((esM_perm l).subset he)
theorem esM_mem {N:Nat} {l:List Tri} (hl:∀t∈l,goodT N t) (a b:Nat):((a:Int),(b:Int))∈ends (esM l)↔a<b∧∃t∈l,has3 t a=true∧has3 t b=true:=by
 rw [show((a:Int),(b:Int))∈ends (esM l)↔((a:Int),(b:Int))∈ends (stE l l.length)from((esM_perm l).map fun e=>(e.a,e.b)).mem_iff]
 have:=stE_mem hl a b l.length
 rwa [List.take_length]at this
theorem esM_pair (l:List Tri):(esM l).Pairwise fun a b=> ¬(a.a=b.a∧a.b=b.b):=by
 have h:=esM_ends l
 unfold ends at h
 rw [List.Nodup,List.pairwise_map]at h
 exact h.imp (fun {a b} h e=>h (by rw [e.1,e.2]))
theorem ms_EdgesM (m:Msh) (vp vt vs:Value) (w:World) (hM:MS w 0 vp vt vs m) (hN:m.pts.length≤1000000) (hl:∀t∈m.tris,goodT m.pts.length t) (hn:m.tris.length≤1000000) (hne0:m.tris≠ []):
  Calls Tryz.prog 7 #[.agg #[vp,vt,vs]] w (fun e w'=> ∃v',e= .returned v'∧SR eC 4 44 w' w.heap.size v' (esM m.tris)∧Gr w.heap.size w w'):=by
 refine(ms_EdgesG m vp vt vs w hM hN hl hn hne0).mono ?_
 rintro e w' ⟨v',rfl,es,hS,hp,hs,hg⟩
 have:=es_unique (stE_nodup _ _) hp hs (esM_perm m.tris) (esM_sorted m.tris)
 subst this
 exact⟨v',rfl,hS,hg⟩
end Go.Proofs.YtfgmdhjmgdccdaaGreat
namespace Go.Proofs.YtfgmdhjmgdccdaaGreat
open Go.ChangeShapes Go.WideShapes Go.RowKit
theorem laid_ok:laidOutB Tryz.prog=true:=by kernel_rfl
theorem Below.same_ {w w':World} (hg:Below w.heap.size w w') {p:MemPlace} (hp:p.block<w.heap.size):w.sameAt w' p:=by
 cases p with
 | cell b o=>exact hg.cell (p:=⟨b,o,none⟩) hp
 | map b=>exact hg.block b hp
theorem again_B {H:Type} {enc:TypeId×Value→H} {W W':World} (hg:Below W.heap.size W W') {t:TypeId} (hr:Tryz.prog.readableRec t=true) (ht:t<Tryz.prog.types.size) {v:Value} {d:DataW H} {ps:List MemPlace}
  (h:DataW.Trod enc Tryz.prog W 0 (fun _=>true) true t v d ps):DataW.Trod enc Tryz.prog W' 0 (fun b=>decide (b<W.heap.size)) true t v d ps:=by
 have hlt:∀p∈ps,p.block<W.heap.size:=by
  obtain ⟨n,hn⟩:=h
  exact DataW.trod_lt n _ _ _ hn
 obtain ⟨n,hn⟩:=DataW.Trod.respare (spare':=fun b=>decide (b<W.heap.size)) (kids_book laid_ok hr) (fun _ _=>book_sized hr) ⟨ht,book_self t⟩ h (fun p hp=>by simpa using hlt p hp)
 exact⟨n,DataW.trod_carry n _ _ _ hn (fun p hp=>Below.same_ hg (hlt p hp))⟩
end Go.Proofs.YtfgmdhjmgdccdaaGreat
