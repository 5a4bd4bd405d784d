/-
  Part 40 of the proof: FluJ FluK FluL Ntb FluM.
-/
import Derived.Test.YtfgmdhjmgdccdaaGreatJ35
import Derived.Test.YtfgmdhjmgdccdaaGreatJ34
import Derived.Test.YtfgmdhjmgdccdaaGreatJ37
import Derived.Test.YtfgmdhjmgdccdaaGreatJ39
import Derived.Test.YtfgmdhjmgdccdaaGreatJ32
set_option linter.unusedSimpArgs false
set_option linter.unusedVariables false
set_option maxHeartbeats 8000000
namespace Go.Proofs.YtfgmdhjmgdccdaaGreat
open Go.RowKit Gus Go.Maps
def D1 (l:List T):Prop:= ∀t∈l,t.i+t.j≤1
theorem D1.ok {l:List T} (h:D1 l):∀t∈l,t.ok:=fun t ht=>by have:=h t ht;show t.i+t.j≤12;omega
theorem D1.gat {l:List T} (h:D1 l):D1 (gat l):=fun t ht=>by
 obtain ⟨y,hy,e1,e2⟩:=gat_mem ht
 have:=h y hy
 omega
theorem D1.addL {a b:List T} (h:D1 a) (k:D1 b):D1 (addL a b):=D1.gat fun t ht=>by
 rcases List.mem_append.1 ht with h'|h'
 ·exact h.gat t h'
 ·exact k.gat t h'
theorem D1.scaleL {a:List T} (h:D1 a) (k:Rat):D1 (scaleL k a):=D1.gat fun t ht=>by
 obtain ⟨x,hx,rfl⟩:=List.mem_map.1 ht
 exact h.gat x hx
theorem D1.negL {a:List T} (h:D1 a):D1 (negL a):=D1.gat fun t ht=>by
 obtain ⟨x,hx,rfl⟩:=List.mem_map.1 ht
 exact h.gat x hx
theorem D1.subL {a b:List T} (h:D1 a) (k:D1 b):D1 (subL a b):=D1.addL h k.negL
theorem D1.nil:D1 []:=fun _ h=>by cases h
theorem D1.const (c:Rat):D1 (constT c):=fun t ht=>by
 unfold constT at ht
 split at ht
 ·cases ht
 ·simp at ht;subst ht;simp
theorem D1.x:D1 xL:=fun t ht=>by simp [xL]at ht;subst ht;simp
theorem D1.y:D1 yL:=fun t ht=>by simp [yL]at ht;subst ht;simp
theorem D1.few {l:List T} (h:D1 l):(Gus.gat l).length≤3:=by
 have hd:=h.gat
 have hs:=(nf_gat h.ok).sorted
 have ha:(Gus.gat l).Pairwise fun a b=> ¬(a.i=b.i∧a.j=b.j):=hs.imp fun {a b} hab e=>by
  unfold ltT at hab
  omega
 generalize Gus.gat l=m at *
 match m,hd,ha with
 | [],_,_=>simp
 | [_],_,_=>simp
 | [_,_],_,_=>simp
 | [_,_,_],_,_=>simp
 | a :: b :: c :: d :: r,hd,ha=>
  have h1:=hd a (by simp)
  have h2:=hd b (by simp)
  have h3:=hd c (by simp)
  have h4:=hd d (by simp)
  simp only [List.pairwise_cons,List.mem_cons,forall_eq_or_imp]at ha
  omega
theorem tot_scl {l:List T} (h:D1 l) (k:Rat):tot (scaleL k l)≤tot l+3*hw k:=by
 have h1:=tot_gat ((gat l).map (T.scale k))
 have h2:=tot_scale k (gat l)
 have h3:=tot_gat l
 have h5:(gat l).length*hw k≤3*hw k:=Nat.mul_le_mul_right _ h.few
 unfold scaleL
 omega
theorem tot_subL (a b:List T):tot (subL a b)≤tot a+tot b*3:=by
 have h1:=tot_addL a (negL b)
 have h2:=tot_negL b
 unfold subL
 omega
theorem hw_one:hw ((1:Int):Rat)≤2:=hw_int 1 (by omega) (by omega)
theorem tot_constT (c:Rat):tot (constT c)≤hw c+1:=by
 unfold constT
 split<;>simp [tot]
theorem tot_xL:tot xL≤3:=by have:=hw_one;simp [xL,tot];omega
theorem tot_yL:tot yL≤3:=by have:=hw_one;simp [yL,tot];omega
theorem hw_0:hw (0:Rat)≤2:=hw_int 0 (by omega) (by omega)
theorem pow_lin {x:List T} (hx:tot x≤300):∀m,m≤1→tot (powL x m)≤1000
 | 0,_=>by
  have h1:=tot_constT 1
  have h2:hw (1:Rat)≤2:=hw_one
  show tot (constT 1)≤_
  omega
 | 1,_=>by
  have h1:=tot_constT 1
  have h2:hw (1:Rat)≤2:=hw_one
  have h3:tot (mulL (constT 1) x)≤tot (constT 1)*tot x:=tot_mulL _ _
  have h4:tot (constT 1)*tot x≤3*300:=Nat.mul_le_mul (by omega) hx
  show tot (mulL (constT 1) x)≤_
  omega
 | n+2,h=>by omega
theorem D1.lin (a c:Rat):D1 (linL a 0 c):=D1.gat fun t ht=>by
 simp at ht
 rcases ht with rfl|rfl|rfl<;>simp
theorem shift1 {p:List T} (hp:D1 p) (ht:tot p≤900) {a0 a1 b0 b1:Rat} (ha:hw a0≤50∧hw a1≤50∧hw b0≤50∧hw b1≤50):ShiftOk (linL (b0 - a0) 0 a0) (linL (b1 - a1) 0 a1) (gat p):=by
 have d0:=hw_sub b0 a0
 have d1:=hw_sub b1 a1
 have h0:=hw_0
 have l0:=tot_linL (b0 - a0) 0 a0
 have l1:=tot_linL (b1 - a1) 0 a1
 have hg:=tot_gat p
 refine⟨D1.lin _ _,D1.lin _ _,hp.gat.ok,fun t h m hm=>pow_lin (by omega) m (by have:=hp.gat t h;omega),fun t h m hm=>pow_lin (by omega) m (by have:=hp.gat t h;omega),fun t h=>by have:=tot_mem h;omega,by have:=hp.few;omega⟩
theorem it_Flow1 (gx gy:List T) (vx vy:Value) (a b:Pt) (w:World) (hx:PL w 0 vx gx) (hy:PL w 0 vy gy) (dx:D1 gx) (dy:D1 gy) (tx:tot gx≤900) (ty:tot gy≤900) (ha:hp a≤50) (hb:hp b≤50):
  Calls Tryz.prog 9 #[vx,vy,f2V a.x a.y,f2V b.x b.y] w (Ret w (fracV (flowV gx gy a b))):=by
 unfold hp at ha hb
 have hab:hw a.x≤50∧hw a.y≤50∧hw b.x≤50∧hw b.y≤50:=by omega
 have hab':hw a.x≤1000∧hw a.y≤1000∧hw b.x≤1000∧hw b.y≤1000:=by omega
 have d0:=hw_sub b.x a.x
 have d1:=hw_sub b.y a.y
 have sx:=shift1 dx tx hab
 have sy:=shift1 dy ty hab
 have key:∀p:List T,ShiftOk (linL (b.x - a.x) 0 a.x) (linL (b.y - a.y) 0 a.y) (gat p)→(gat p).length≤3→hw (sumV (shiftL p (b.x - a.x) 0 a.x (b.y - a.y) 0 a.y))≤50000000000:=by
  intro p hs hl
  have h1:=shift_acc hs (gat p).length (Nat.le_refl _)
  rw [List.take_length]at h1
  have h2:=hw_sumV h1.1 _ (Nat.le_refl _)
  rw [List.take_length]at h2
  show hw (sumV (shiftA _ _ (gat p)))≤_
  omega
 have kx:=key gx sx dx.few
 have ky:=key gy sy dy.few
 generalize hX:sumV (shiftL gx (b.x - a.x) 0 a.x (b.y - a.y) 0 a.y)=X at kx
 generalize hY:sumV (shiftL gy (b.x - a.x) 0 a.x (b.y - a.y) 0 a.y)=Y at ky
 have m0:=hw_mul (b.y - a.y) X
 have m1:=hw_mul (b.x - a.x) Y
 have e:flowV gx gy a b=(b.y - a.y)*X - (b.x - a.x)*Y:=by unfold flowV;rw [hX,hY]
 rw [e]
 exact Flow_raw a.x a.y b.x b.y (b.x - a.x) (b.y - a.y) X Y _ _ _ vx vy w (fun W=>it_less b.x b.y a.x a.y W (by omega))
  (fun W hW=>hX ▸ it_Seg gx a.x a.y b.x b.y vx W (hx.gr hW) dx.ok (by omega) hab' sx (by have:=dx.few;omega))
  (fun W hW=>hY ▸ it_Seg gy a.x a.y b.x b.y vy W (hy.gr hW) dy.ok (by omega) hab' sy (by have:=dy.few;omega))
  (fun W=>fr_Mul _ _ W (by omega) (by omega)) (fun W=>fr_Mul _ _ W (by omega) (by omega)) (fun W=>fr_Sub _ _ W (by omega) (by omega))
end Go.Proofs.YtfgmdhjmgdccdaaGreat
namespace Go.Proofs.YtfgmdhjmgdccdaaGreat
open Go.RowKit Gus Go.Maps
theorem esM_hasE {N:Nat} {l:List Tri} (hl:∀t∈l,goodT N t) {t:Tri} (ht:t∈l) {a b:Nat} (hab:a≠b) (ha:has3 t a=true) (hb:has3 t b=true):hasE (esM l) a b:=by
 have h:(((min a b:Nat):Int),((max a b:Nat):Int))∈ends (esM l):=(esM_mem hl _ _).2 ⟨by omega,t,ht,by
  rcases Nat.le_total a b with h|h
  ·rw [Nat.min_eq_left h];exact ha
  ·rw [Nat.min_eq_right h];exact hb,by
  rcases Nat.le_total a b with h|h
  ·rw [Nat.max_eq_right h];exact hb
  ·rw [Nat.max_eq_left h];exact ha⟩
 obtain ⟨e,he,h1⟩:=List.mem_map.1 h
 injection h1 with h1 h2
 exact⟨e,he,h1,h2⟩
structure GoodF (m:Msh):Prop where
 A:GoodA m
 np:m.pts.length≤1000
 nt:m.tris.length≤1000
 small:∀p∈m.pts,hp p≤4
 chk:∀W a b c,MS W 0 a b c m→Calls Tryz.prog 56 #[.agg #[a,b,c]] W (Ret W (.int .i64 0))
theorem RawM.goodF (x:RawM):GoodF x.mesh:=
 ⟨x.net.goodA x.det x.smallK x.d_pos.1 x.d_pos.2 x.side,by have:=x.net.fewP;simp [RawM.mesh,meshOf];omega,by have:=x.net.few;simp [RawM.mesh,meshOf];omega,fun p hp'=>by
  obtain ⟨q,hq,rfl⟩:=List.mem_map.1 (show p∈x.P.map (ptM x.k x.d)from hp')
  exact hp_pt x.smallK x.d_pos.2 (x.net.low q hq),fun W a b c h=>m_Check x a b c W h⟩
def byR (a b c:Pt):Rat:=((1:Int):Rat) / (((2:Int):Rat)*areaP a b c)
theorem area2 (a b c:Pt):((2:Int):Rat)*areaP a b c=twice a b c:=by
 have e2:((2:Int):Rat)=2:=rfl
 unfold areaP
 rw [e2]
 grind
theorem num_ne {q:Rat} (h:q≠0):q.num≠0:=fun e=>h (Rat.num_eq_zero.1 e)
theorem byR_twice {a b c:Pt} (h:twice a b c≠0):byR a b c*twice a b c=1:=by
 unfold byR
 rw [area2,show((1:Int):Rat)=1 from rfl,Rat.div_def,Rat.one_mul,Rat.inv_mul_cancel _ h]
theorem hw_area (a b c:Pt) (ha:hp a≤4) (hb:hp b≤4) (hc:hp c≤4):hw (areaP a b c)≤47:=by
 have h1:=hw_twice a b c
 have h2:hw (1 / 2:Rat)≤10:=by decide+kernel
 have h3:=hw_mul (twice a b c) (1 / 2)
 unfold areaP
 omega
theorem hw_two:hw ((2:Int):Rat)≤2:=hw_int 2 (by omega) (by omega)
theorem hw_byR {a b c:Pt} (h:twice a b c≠0) (ha:hp a≤4) (hb:hp b≤4) (hc:hp c≤4):hw (byR a b c)≤60:=by
 have h1:=hw_area a b c ha hb hc
 have h2:=hw_mul ((2:Int):Rat) (areaP a b c)
 have h3:=hw_two
 have h4:=hw_one
 have h5:=hw_mul ((1:Int):Rat) (((2:Int):Rat)*areaP a b c)⁻¹
 have h6:=hw_inv (((2:Int):Rat)*areaP a b c) (by rw [area2];exact num_ne h)
 unfold byR
 rw [Rat.div_def]
 omega
theorem d1_bx (p:Pt) (b:Rat):D1 (baseX p b)∧D1 (baseY p b):=⟨(D1.x.subL (D1.const _)).scaleL _,(D1.y.subL (D1.const _)).scaleL _⟩
theorem tot_bx (p:Pt) (b:Rat) (h:hp p≤4) (hb:hw b≤60):tot (subL xL (constT p.x))≤18∧tot (subL yL (constT p.y))≤18∧tot (baseX p b)≤198∧tot (baseY p b)≤198:=by
 unfold hp at h
 have a1:=tot_subL xL (constT p.x)
 have a2:=tot_subL yL (constT p.y)
 have a3:=tot_xL
 have a4:=tot_yL
 have a5:=tot_constT p.x
 have a6:=tot_constT p.y
 have a7:=tot_scl (D1.x.subL (D1.const p.x)) b
 have a8:=tot_scl (D1.y.subL (D1.const p.y)) b
 unfold baseX baseY
 omega
section
variable {m:Msh} (g:GoodF m)
include g
theorem GoodF.good:∀t∈m.tris,goodT m.pts.length t:=fun t ht=>(g.A.tri t ht).1
theorem GoodF.has:∀t∈m.tris,t.1<m.pts.length∧t.2.1<m.pts.length∧t.2.2<m.pts.length∧hasE (esM m.tris) t.2.1 t.2.2∧hasE (esM m.tris) t.2.2 t.1∧hasE (esM m.tris) t.1 t.2.1:=fun t ht=>by
 obtain ⟨a1,a2,a3,e1,e2,e3⟩:=g.good t ht
 have h1:has3 t t.1=true:=by simp [has3]
 have h2:has3 t t.2.1=true:=by simp [has3]
 have h3:has3 t t.2.2=true:=by simp [has3]
 exact⟨a1,a2,a3,esM_hasE g.good ht e2 h2 h3,esM_hasE g.good ht e3 h3 h1,esM_hasE g.good ht e1 h1 h2⟩
theorem GoodF.few:(esM m.tris).length≤3000:=by have:=esM_len m.tris;have:=g.nt;omega
theorem gf_Edges (W:World) (a b c:Value) (h:MS W 0 a b c m):Calls Tryz.prog 7 #[.agg #[a,b,c]] W (fun e w'=> ∃v',e= .returned v'∧SR eC 4 44 w' W.heap.size v' (esM m.tris)∧Gr W.heap.size W w'):=
 ms_EdgesM m a b c W h (by have:=g.np;omega) g.good (by have:=g.nt;omega) g.A.one
theorem gf_Check (V:List Rat) (a b c d:Value) (w:World) (h:FS w 0 a b c d m V) (hV:V.length=(esM m.tris).length):Calls Tryz.prog 32 #[.agg #[a,b,c,d]] w (Ret w (.int .i64 0)):=by
 obtain ⟨av,cv,rfl⟩:=h.2.at
 exact fCheck_raw a b c av V.length cv (esM m.tris) w (fun W hW=>g.chk W a b c (h.1.gr hW)) (fun W hW=>gf_Edges g W a b c (h.1.gr hW)) hV
theorem gf_parts (a b c:Value) (w:World) (h:MS w 0 a b c m):Calls Tryz.prog 34 #[.agg #[a,b,c]] w (fun e w'=> ∃v,e= .returned v∧SR p3C 6 99 w' w.heap.size v (m.tris.map (partsT (esM m.tris)))∧Gr w.heap.size w w'):=
 parts_raw m (esM m.tris) a b c w h (by have:=g.np;omega) g.nt g.has g.few (esM_Ends g.good) (esM_pair _) (fun W hW=>gf_Edges g W a b c (h.gr hW))
def corP (m:Msh) (t:Tri):Nat→Pt:=fun k=>m.pts.getD (corT t k) ⟨0,0⟩
theorem GoodF.pt {k:Nat} (hk:k<m.pts.length):m.pts[k]=m.pts.getD k ⟨0,0⟩∧hp (m.pts.getD k ⟨0,0⟩)≤4:=by
 have e:m.pts.getD k ⟨0,0⟩=m.pts[k]:=by rw [List.getD_eq_getElem?_getD,List.getElem?_eq_getElem hk];rfl
 exact⟨e.symm,e ▸ g.small _ (List.getElem_mem hk)⟩
theorem GoodF.cor (t:Tri) (ht:t∈m.tris) (k:Nat):hp (corP m t k)≤4:=by
 obtain ⟨a1,a2,a3,_⟩:=g.good t ht
 refine(g.pt (k:=corT t k) ?_).2
 unfold corT
 split
 ·exact a1
 ·split
  ·exact a2
  ·exact a3
theorem GoodF.twice (t:Tri) (ht:t∈m.tris):twice (corP m t 0) (corP m t 1) (corP m t 2)≠0:=by
 obtain ⟨⟨a1,a2,a3,_⟩,h⟩:=g.A.tri t ht
 have e:=h (corP m t 0) (corP m t 1) (corP m t 2) (by rw [List.getElem?_eq_getElem a1,(g.pt a1).1];rfl) (by rw [List.getElem?_eq_getElem a2,(g.pt a2).1];rfl) (by rw [List.getElem?_eq_getElem a3,(g.pt a3).1];rfl)
 intro e0
 rw [turn,e0]at e
 exact absurd e (by decide)
theorem gf_Corners (j:Nat) (t:Tri) (ht:m.tris[j]? =some t) (a b c:Value) (w:World) (h:MS w 0 a b c m):Calls Tryz.prog 12 #[.agg #[a,b,c],.int .i64 (j:Int)] w (Ret w (.tuple #[pV (corP m t 0),pV (corP m t 1),pV (corP m t 2)])):=by
 obtain ⟨hj,hjt⟩:=List.getElem?_eq_some_iff.1 ht
 obtain ⟨a1,a2,a3,_⟩:=g.good t (hjt ▸ List.getElem_mem hj)
 exact ms_Corners m a b c j t _ _ _ w h hj hjt a1 a2 a3 (g.pt a1).1 (g.pt a2).1 (g.pt a3).1
theorem gf_basis (j:Nat) (t:Tri) (ht:m.tris[j]? =some t) (va vb vc:Value) (w:World) (h:MS w 0 va vb vc m) (q:Rat) (hq:byR (corP m t 0) (corP m t 1) (corP m t 2)=q):
  Calls Tryz.prog 76 #[.agg #[va,vb,vc],.int .i64 (j:Int)] w (fun e w'=> ∃x0 y0 x1 y1 x2 y2:Value,e= .returned (.agg #[x0,y0,x1,y1,x2,y2])∧PL w' w.heap.size x0 (baseX (corP m t 0) q)∧PL w' w.heap.size y0 (baseY (corP m t 0) q)∧PL w' w.heap.size x1 (baseX (corP m t 1) q)∧PL w' w.heap.size y1 (baseY (corP m t 1) q)∧PL w' w.heap.size x2 (baseX (corP m t 2) q)∧PL w' w.heap.size y2 (baseY (corP m t 2) q)∧Gr w.heap.size w w'):=by
 have htm:t∈m.tris:=List.mem_of_getElem? ht
 have c0:=g.cor t htm 0
 have c1:=g.cor t htm 1
 have c2:=g.cor t htm 2
 have ht2:=g.twice t htm
 have har:=hw_area _ _ _ c0 c1 c2
 have hby:=hw_byR ht2 c0 c1 c2
 rw [hq]at hby
 have h2:=hw_mul ((2:Int):Rat) (areaP (corP m t 0) (corP m t 1) (corP m t 2))
 have h3:=hw_two
 have h4:=hw_one
 have hC:=fun W hW=>gf_Corners g j t ht va vb vc W (h.gr (w':=W) hW)
 have hn:(((2:Int):Rat)*areaP (corP m t 0) (corP m t 1) (corP m t 2)).num≠0:=by rw [area2];exact num_ne ht2
 have hD:=fun W=>fr_Div ((1:Int):Rat) (((2:Int):Rat)*areaP (corP m t 0) (corP m t 1) (corP m t 2)) W (by omega) (by omega) hn
 have hq':((1:Int):Rat) / (((2:Int):Rat)*areaP (corP m t 0) (corP m t 1) (corP m t 2))=q:=hq
 rw [hq']at hD
 have hall:∀p∈ [corP m t 0,corP m t 1,corP m t 2],hp p≤4:=by simp [c0,c1,c2]
 have hxy:∀p∈ [corP m t 0,corP m t 1,corP m t 2],hw p.x≤4∧hw p.y≤4:=fun p hp'=>by have:=hall p hp';unfold hp at this;omega
 exact basis_raw _ _ _ _ rfl (areaP _ _ _) _ _ _ q (fun p=>subL xL (constT p.x)) (fun p=>subL yL (constT p.y)) (fun p=>baseX p q) (fun p=>baseY p q) j va vb vc w
  (fun W hW=>fcorners_raw _ _ _ _ j va vb vc W (fun W' hW'=>hC W' (hW.trans (hW'.mono hW.size))) (fun W'=>tr_Area _ _ _ W' ⟨by omega,by omega,by omega⟩))
  (fun W=>fr_Int 1 W (by omega) (by omega)) (fun W=>fr_Int 2 W (by omega) (by omega)) (fun W=>fr_Mul _ _ W (by omega) (by omega)) hD
  (fun W=>po_X W) (fun p hp' W=>po_Const p.x W (by have:=hxy p hp';omega)) (fun p hp' v u W hv hu=>po_Sub xL (constT p.x) v u W hv hu D1.x.ok (D1.const _).ok (by have:=tot_xL;have:=tot_constT p.x;have:=hxy p hp';omega))
  (fun p hp' v W hv=>po_Scale q _ v W hv (D1.x.subL (D1.const _)).ok (by have:=(tot_bx p q (hall p hp') hby).1;exact Nat.le_trans (Nat.mul_le_mul this (show hw q+2≤62 by omega)) (by decide)))
  (fun W=>po_Y W) (fun p hp' W=>po_Const p.y W (by have:=hxy p hp';omega)) (fun p hp' v u W hv hu=>po_Sub yL (constT p.y) v u W hv hu D1.y.ok (D1.const _).ok (by have:=tot_yL;have:=tot_constT p.y;have:=hxy p hp';omega))
  (fun p hp' v W hv=>po_Scale q _ v W hv (D1.y.subL (D1.const _)).ok (by have:=(tot_bx p q (hall p hp') hby).2.1;exact Nat.le_trans (Nat.mul_le_mul this (show hw q+2≤62 by omega)) (by decide)))
end
end Go.Proofs.YtfgmdhjmgdccdaaGreat
namespace Go.Proofs.YtfgmdhjmgdccdaaGreat
open Go.RowKit Gus Go.Maps
def axN (b:Nat→List T) (o:Nat→Rat):Nat→List T
 | 0=> []
 | k+1=>addL (axN b o k) (scaleL (o k) (b k))
theorem axN_d1 {b:Nat→List T} (o:Nat→Rat) (h:∀k,D1 (b k)):∀k,D1 (axN b o k)
 | 0=>D1.nil
 | k+1=>(axN_d1 o h k).addL ((h k).scaleL _)
theorem axN_tot {b:Nat→List T} {o:Nat→Rat} (h:∀k,D1 (b k)) (ht:∀k,k<3→tot (scaleL (o k) (b k))≤264):∀k,k≤3→tot (axN b o k)≤264*k
 | 0,_=>by simp [axN,tot]
 | k+1,hk=>by
  have h1:=axN_tot h ht k (by omega)
  have h2:=ht k (by omega)
  have h3:=tot_addL (axN b o k) (scaleL (o k) (b k))
  show tot (addL _ _)≤_
  omega
def smR (V:List Rat) (x:Nat→Part):Nat→Rat
 | 0=>0
 | k+1=>smR V x k+outR V (x k)
theorem hw_out {V:List Rat} (hV:∀q∈V,hw q≤20) (x:Part) (h1:x.1<V.length) (h2:x.2=1∨x.2= -1):hw (outR V x)≤22:=by
 have e:V.getD x.1 0=V[x.1]:=by rw [List.getD_eq_getElem?_getD,List.getElem?_eq_getElem h1];rfl
 have a:=hV _ (List.getElem_mem h1)
 have b:hw ((x.2:Int):Rat)≤2:=hw_int x.2 (by omega) (by omega)
 have c:=hw_mul ((x.2:Int):Rat) V[x.1]
 unfold outR
 rw [e]
 omega
theorem sgnE_one (a b:Nat):sgnE a b=1∨sgnE a b= -1:=by
 unfold sgnE
 split
 ·exact .inr rfl
 ·exact .inl rfl
section
variable {m:Msh} (g:GoodF m)
include g
theorem GoodF.part {V:List Rat} (hVl:V.length=(esM m.tris).length) (t:Tri) (ht:t∈m.tris) (k:Nat) (hk:k<3):(partsT (esM m.tris) t k).1<V.length:=by
 obtain ⟨_,_,_,e0,e1,e2⟩:=g.has t ht
 rw [hVl]
 rcases(show k=0∨k=1∨k=2 by omega)with rfl|rfl|rfl
 ·exact edge_lt e0
 ·exact edge_lt e1
 ·exact edge_lt e2
end
end Go.Proofs.YtfgmdhjmgdccdaaGreat
namespace Go.Proofs.YtfgmdhjmgdccdaaGreat
open Go.RowKit Gus Go.Maps
theorem axN_totB {b:Nat→List T} {o:Nat→Rat} {C:Nat} (h:∀k,D1 (b k)) (ht:∀k,k<3→tot (scaleL (o k) (b k))≤C):∀k,k≤3→tot (axN b o k)≤k*C
 | 0,_=>by simp [axN,tot]
 | k+1,hk=>by
  have h1:=axN_totB h ht k (by omega)
  have h2:=ht k (by omega)
  have h3:=tot_addL (axN b o k) (scaleL (o k) (b k))
  rw [Nat.succ_mul]
  show tot (addL _ _)≤_
  omega
theorem hw_outB {V:List Rat} {B:Nat} (hV:∀q∈V,hw q≤B) (x:Part) (h1:x.1<V.length) (h2:x.2=1∨x.2= -1):hw (outR V x)≤B+2:=by
 have e:V.getD x.1 0=V[x.1]:=by rw [List.getD_eq_getElem?_getD,List.getElem?_eq_getElem h1];rfl
 have a:=hV _ (List.getElem_mem h1)
 have b:hw ((x.2:Int):Rat)≤2:=hw_int x.2 (by omega) (by omega)
 have c:=hw_mul ((x.2:Int):Rat) V[x.1]
 unfold outR
 rw [e]
 omega
theorem hw_smB {V:List Rat} {x:Nat→Part} {B:Nat} (h:∀k,k<3→hw (outR V (x k))≤B+2):∀k,k≤3→hw (smR V x k)≤2+k*(B+3)
 | 0,_=>by have:=hw_0;show hw (0:Rat)≤_;omega
 | k+1,hk=>by
  have h1:=hw_smB h k (by omega)
  have h2:=h k (by omega)
  have h3:=hw_add (smR V x k) (outR V (x k))
  rw [Nat.succ_mul]
  show hw (smR V x k+outR V (x k))≤_
  omega
section
variable {m:Msh} (g:GoodF m)
include g
theorem gf_fieldB (j:Nat) (t:Tri) (ht:m.tris[j]? =some t) (V:List Rat) (hVl:V.length=(esM m.tris).length) {B:Nat} (hB:B≤400000000) (hVb:∀q∈V,hw q≤B) (x:Nat→Part) (hx:partsT (esM m.tris) t=x) (va vb vc vd:Value) (w:World) (h:FS w 0 va vb vc vd m V) (q:Rat) (hq:byR (corP m t 0) (corP m t 1) (corP m t 2)=q):
  Calls Tryz.prog 33 #[.agg #[va,vb,vc,vd],.agg #[.int .i64 ((x 0).1:Int),.int .i64 (x 0).2,.int .i64 ((x 1).1:Int),.int .i64 (x 1).2,.int .i64 ((x 2).1:Int),.int .i64 (x 2).2],.int .i64 (j:Int)] w (fun e w'=> ∃u v:Value,e= .returned (.agg #[u,v])∧PL w' w.heap.size u (fieldX q (outR V (x 0)) (outR V (x 1)) (outR V (x 2)) (corP m t 0) (corP m t 1) (corP m t 2))∧PL w' w.heap.size v (fieldY q (outR V (x 0)) (outR V (x 1)) (outR V (x 2)) (corP m t 0) (corP m t 1) (corP m t 2))∧Gr w.heap.size w w'):=by
 have htm:t∈m.tris:=List.mem_of_getElem? ht
 have hxl:∀k,k<3→(x k).1<V.length:=fun k hk=>hx ▸ g.part hVl t htm k hk
 have hxs:∀k,(x k).2=1∨(x k).2= -1:=fun k=>by rw [←hx];exact sgnE_one _ _
 have hne:V≠ []:=fun e=>by have:=hxl 0 (by omega);rw [e]at this;simp at this
 obtain ⟨gv,cv,e,_⟩:=h.2.block hne
 subst e
 have hby:=hw_byR (g.twice t htm) (g.cor t htm 0) (g.cor t htm 1) (g.cor t htm 2)
 rw [hq]at hby
 have dx:∀k,D1 (baseX (corP m t k) q):=fun k=>(d1_bx _ _).1
 have dy:∀k,D1 (baseY (corP m t k) q):=fun k=>(d1_bx _ _).2
 have tb:=fun k=>tot_bx (corP m t k) q (g.cor t htm k) hby
 have ho:∀k,k<3→hw (outR V (x k))≤B+2:=fun k hk=>hw_outB hVb _ (hxl k hk) (hxs k)
 have hs:∀k,hw (((x k).2:Int):Rat)≤2:=fun k=>hw_int _ (by have:=hxs k;omega) (by have:=hxs k;omega)
 have sx:∀k,k<3→tot (scaleL (outR V (x k)) (baseX (corP m t k) q))≤198+3*(B+2):=fun k hk=>by have:=tot_scl (dx k) (outR V (x k));have:=ho k hk;have:=(tb k).2.2.1;omega
 have sy:∀k,k<3→tot (scaleL (outR V (x k)) (baseY (corP m t k) q))≤198+3*(B+2):=fun k hk=>by have:=tot_scl (dy k) (outR V (x k));have:=ho k hk;have:=(tb k).2.2.2;omega
 refine field_raw x V (fun k=>(((x k).2:Int):Rat)) (fun k=>outR V (x k)) (fun k=>baseX (corP m t k) q) (fun k=>baseY (corP m t k) q) (fun k=>scaleL (outR V (x k)) (baseX (corP m t k) q)) (fun k=>scaleL (outR V (x k)) (baseY (corP m t k) q))
  (axN (fun k=>baseX (corP m t k) q) (fun k=>outR V (x k))) (axN (fun k=>baseY (corP m t k) q) (fun k=>outR V (x k))) j gv cv va vb vc w h.2 hxl rfl rfl
  (fun W hW=>gf_basis g j t ht va vb vc W (h.1.gr hW) q hq) (fun k hk W=>fr_Int _ W (by have:=hxs k;omega) (by have:=hxs k;omega))
  (fun k r hk hr W=>?_)
  (fun k hk v W hv=>po_Scale _ _ v W hv (dx k).ok (Nat.le_trans (Nat.mul_le_mul (tb k).2.2.1 (show hw (outR V (x k))+2≤500000000 by have:=ho k hk;omega)) (by decide)))
  (fun k hk v u W hv hu=>po_Add _ _ v u W hv hu (axN_d1 _ dx k).ok ((dx k).scaleL _).ok (by have h8:=axN_totB dx sx k (by omega);have:=sx k hk;have h9:k*(198+3*(B+2))≤3*(198+3*(B+2)):=Nat.mul_le_mul_right _ (by omega);dsimp only;omega))
  (fun k hk v W hv=>po_Scale _ _ v W hv (dy k).ok (Nat.le_trans (Nat.mul_le_mul (tb k).2.2.2 (show hw (outR V (x k))+2≤500000000 by have:=ho k hk;omega)) (by decide)))
  (fun k hk v u W hv hu=>po_Add _ _ v u W hv hu (axN_d1 _ dy k).ok ((dy k).scaleL _).ok (by have h8:=axN_totB dy sy k (by omega);have:=sy k hk;have h9:k*(198+3*(B+2))≤3*(198+3*(B+2)):=Nat.mul_le_mul_right _ (by omega);dsimp only;omega))
 have e:outR V (x k)=(((x k).2:Int):Rat)*r:=by unfold outR;rw [List.getD_eq_getElem?_getD,hr];rfl
 rw [e]
 exact fr_Mul _ _ W (by have:=hs k;omega) (by have:=hVb r (List.mem_of_getElem? hr);omega)
theorem gf_OnB (j:Nat) (t:Tri) (ht:m.tris[j]? =some t) (V:List Rat) (hVl:V.length=(esM m.tris).length) {B:Nat} (hB:B≤400000000) (hVb:∀q∈V,hw q≤B) (x:Nat→Part) (hx:partsT (esM m.tris) t=x) (va vb vc vd:Value) (w:World) (h:FS w 0 va vb vc vd m V) (q:Rat) (hq:byR (corP m t 0) (corP m t 1) (corP m t 2)=q):
  Calls Tryz.prog 8 #[.agg #[va,vb,vc,vd],.int .i64 (j:Int)] w (fun e w'=> ∃u v:Value,e= .returned (.tuple #[.agg #[u,v],.int .i64 0])∧PL w' w.heap.size u (fieldX q (outR V (x 0)) (outR V (x 1)) (outR V (x 2)) (corP m t 0) (corP m t 1) (corP m t 2))∧PL w' w.heap.size v (fieldY q (outR V (x 0)) (outR V (x 1)) (outR V (x 2)) (corP m t 0) (corP m t 1) (corP m t 2))∧Gr w.heap.size w w'):=by
 obtain ⟨at_,ct,rfl⟩:=h.1.2.1.at
 have hj:=(List.getElem?_eq_some_iff.1 ht).1
 exact On_raw m.tris.length ct j at_ (m.tris.map (partsT (esM m.tris))) x _ _ va vc vd w hj (by rw [List.getElem?_map,ht];exact congrArg some hx)
  (fun W hW=>gf_Check g V va _ vc vd W (h.gr hW) hVl) (fun W hW=>gf_parts g va _ vc W (h.1.gr hW)) (fun W hW=>gf_fieldB g j t ht V hVl hB hVb x hx va _ vc vd W (h.gr hW) q hq)
theorem gf_NetB (V:List Rat) (hVl:V.length=(esM m.tris).length) {B:Nat} (hB:B≤10000000000) (hVb:∀q∈V,hw q≤B) (va vb vc vd:Value) (w:World) (h:FS w 0 va vb vc vd m V):
  Calls Tryz.prog 11 #[.agg #[va,vb,vc,vd]] w (fun e w'=> ∃v,e= .returned (.tuple #[v,.int .i64 0])∧SR qC 5 59 w' w.heap.size v (m.tris.map fun t=>netR V (partsT (esM m.tris) t))∧Gr w.heap.size w w'):=by
 have hx:∀x∈m.tris.map (partsT (esM m.tris)),(∀k,k<3→(x k).1<V.length)∧∀k,(x k).2=1∨(x k).2= -1:=fun x hx=>by
  obtain ⟨t,ht,rfl⟩:=List.mem_map.1 hx
  exact⟨fun k hk=>g.part hVl t ht k hk,fun k=>sgnE_one _ _⟩
 have hne:V≠ []:=fun e=>by
  obtain ⟨t,ht⟩:=List.exists_mem_of_ne_nil _ g.A.one
  have:=g.part hVl t ht 0 (by omega)
  rw [e]at this
  simp at this
 obtain ⟨gv,cv,e,_⟩:=h.2.block hne
 subst e
 have hr:=net_raw (m.tris.map (partsT (esM m.tris))) V (fun x k=>(((x k).2:Int):Rat)) (fun x k=>outR V (x k)) (smR V) gv cv va vb vc w h.2 (by rw [List.length_map];exact g.nt) (fun x h k hk=>(hx x h).1 k hk) (fun _=>rfl)
  (fun W hW=>gf_Check g V va vb vc _ W (h.gr hW) hVl) (fun W hW=>gf_parts g va vb vc W (h.1.gr hW))
  (fun x h k hk W=>fr_Int _ W (by have:=(hx x h).2 k;omega) (by have:=(hx x h).2 k;omega))
  (fun x h k r hk hr W=>by
   have e:outR V (x k)=(((x k).2:Int):Rat)*r:=by unfold outR;rw [List.getD_eq_getElem?_getD,hr];rfl
   rw [e]
   exact fr_Mul _ _ W (by have:hw (((x k).2:Int):Rat)≤2:=hw_int _ (by have:=(hx x h).2 k;omega) (by have:=(hx x h).2 k;omega)
                          omega) (by have:=hVb r (List.mem_of_getElem? hr);omega))
  (fun x h k hk W=>fr_Add _ _ W (by have:=hw_smB (fun k hk=>hw_outB hVb (x k) ((hx x h).1 k hk) ((hx x h).2 k)) k (by omega);have h9:k*(B+3)≤3*(B+3):=Nat.mul_le_mul_right _ (by omega);omega) (by have:=hw_outB hVb (x k) ((hx x h).1 k hk) ((hx x h).2 k);omega))
 rw [List.map_map]at hr
 exact hr
end
end Go.Proofs.YtfgmdhjmgdccdaaGreat
namespace Go.Proofs.YtfgmdhjmgdccdaaGreat
open Go.RowKit Gus Go.Maps
def onS (l:List Tri) (e:Edg) (j:Int):Prop:=j= -1∨∃(n:Nat) (t:Tri) (k:Nat),j=(n:Int)∧l[n]? =some t∧k<3∧e.a=((min (corT t (k+1)) (corT t (k+2)):Nat):Int)∧e.b=((max (corT t (k+1)) (corT t (k+2)):Nat):Int)
def lrS (l:List Tri) (E:List Edg):Prop:= ∀e∈E,onS l e e.l∧onS l e e.r
def byT (m:Msh) (t:Tri):Rat:=byR (corP m t 0) (corP m t 1) (corP m t 2)
def outF (m:Msh) (V:List Rat) (t:Tri) (k:Nat):Rat:=outR V (partsT (esM m.tris) t k)
def fldX (m:Msh) (V:List Rat) (t:Tri):List T:=fieldX (byT m t) (outF m V t 0) (outF m V t 1) (outF m V t 2) (corP m t 0) (corP m t 1) (corP m t 2)
def fldY (m:Msh) (V:List Rat) (t:Tri):List T:=fieldY (byT m t) (outF m V t 0) (outF m V t 1) (outF m V t 2) (corP m t 0) (corP m t 1) (corP m t 2)
theorem D1.dx {a:List T} (h:D1 a):D1 (dxL a):=D1.gat fun t ht=>by
 obtain ⟨x,hx,rfl⟩:=List.mem_map.1 ht
 have:=h.gat x hx
 simp only [T.dx]
 omega
theorem D1.dy {a:List T} (h:D1 a):D1 (dyL a):=D1.gat fun t ht=>by
 obtain ⟨x,hx,rfl⟩:=List.mem_map.1 ht
 have:=h.gat x hx
 simp only [T.dy]
 omega
theorem fld_d1 (m:Msh) (V:List Rat) (t:Tri):D1 (fldX m V t)∧D1 (fldY m V t):=by
 refine⟨D1.addL (D1.addL (D1.addL D1.nil (D1.scaleL ?_ _)) (D1.scaleL ?_ _)) (D1.scaleL ?_ _),D1.addL (D1.addL (D1.addL D1.nil (D1.scaleL ?_ _)) (D1.scaleL ?_ _)) (D1.scaleL ?_ _)⟩
 ·exact(d1_bx _ _).1
 ·exact(d1_bx _ _).1
 ·exact(d1_bx _ _).1
 ·exact(d1_bx _ _).2
 ·exact(d1_bx _ _).2
 ·exact(d1_bx _ _).2
section
variable {m:Msh} (g:GoodF m)
include g
theorem fld_tot (t:Tri) (ht:t∈m.tris) (V:List Rat) (hVl:V.length=(esM m.tris).length) (hVb:∀q∈V,hw q≤20):tot (fldX m V t)≤792∧tot (fldY m V t)≤792:=by
 have hby:hw (byT m t)≤60:=hw_byR (g.twice t ht) (g.cor t ht 0) (g.cor t ht 1) (g.cor t ht 2)
 have dx:∀k,D1 (baseX (corP m t k) (byT m t)):=fun k=>(d1_bx _ _).1
 have dy:∀k,D1 (baseY (corP m t k) (byT m t)):=fun k=>(d1_bx _ _).2
 have tb:=fun k=>tot_bx (corP m t k) (byT m t) (g.cor t ht k) hby
 have ho:∀k,k<3→hw (outF m V t k)≤22:=fun k hk=>hw_out hVb _ (g.part hVl t ht k hk) (sgnE_one _ _)
 exact⟨axN_tot dx (fun k hk=>by have:=tot_scl (dx k) (outF m V t k);have:=ho k hk;have:=(tb k).2.2.1;omega) 3 (by omega),axN_tot dy (fun k hk=>by have:=tot_scl (dy k) (outF m V t k);have:=ho k hk;have:=(tb k).2.2.2;omega) 3 (by omega)⟩
theorem gf_OnT (j:Nat) (t:Tri) (ht:m.tris[j]? =some t) (V:List Rat) (hVl:V.length=(esM m.tris).length) (hVb:∀q∈V,hw q≤20) (va vb vc vd:Value) (w:World) (h:FS w 0 va vb vc vd m V):
  Calls Tryz.prog 8 #[.agg #[va,vb,vc,vd],.int .i64 (j:Int)] w (fun e w'=> ∃u v:Value,e= .returned (.tuple #[.agg #[u,v],.int .i64 0])∧PL w' w.heap.size u (fldX m V t)∧PL w' w.heap.size v (fldY m V t)∧Gr w.heap.size w w'):=
 gf_OnB g j t ht V hVl (show 20≤400000000 by omega) hVb _ rfl va vb vc vd w h _ rfl
end
end Go.Proofs.YtfgmdhjmgdccdaaGreat
