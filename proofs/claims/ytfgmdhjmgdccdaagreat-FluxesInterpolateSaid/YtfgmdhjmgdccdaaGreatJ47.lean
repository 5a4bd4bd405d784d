/-
  Part 47 of the proof: GrN GrW GrX Flw Trd Own Dvg ChA.
-/
import Derived.Test.YtfgmdhjmgdccdaaGreatJ46
import Derived.Test.YtfgmdhjmgdccdaaGreatJ42
import Derived.Test.YtfgmdhjmgdccdaaGreatJ44
import Derived.Test.YtfgmdhjmgdccdaaGreatJ34
import Derived.Test.YtfgmdhjmgdccdaaGreatJ40
import Derived.Test.YtfgmdhjmgdccdaaGreatJ45
import Derived.Test.YtfgmdhjmgdccdaaGreatJ2
set_option linter.unusedSimpArgs false
set_option linter.unusedVariables false
set_option maxHeartbeats 8000000
namespace Go.Proofs.YtfgmdhjmgdccdaaGreat
open Go.RowKit Gus Go.Maps
def itpV (m:Msh) (gx gy:List T):List Rat:=(esM m.tris).map (eFlow m gx gy)
theorem itp_len (m:Msh) (gx gy:List T):(itpV m gx gy).length=(esM m.tris).length:=by simp [itpV]
section
variable {m:Msh} (g:GoodF m)
include g
theorem itp_out {gx gy:List T} (hx:D4 gx) (hy:D4 gy) (t:Tri) (ht:t∈m.tris) (k:Nat) (hk:k<3):outF m (itpV m gx gy) t k=flowV gx gy (corP m t (k+1)) (corP m t (k+2)):=by
 have hh:=g.has t ht
 have hg:=g.good t ht
 have hE:hasE (esM m.tris) (corT t (k+1)) (corT t (k+2)):=by
  rcases(show k=0∨k=1∨k=2 by omega)with rfl|rfl|rfl
  ·exact hh.2.2.2.1
  ·exact hh.2.2.2.2.1
  ·exact hh.2.2.2.2.2
 have hne:corT t (k+1)≠corT t (k+2):=by
  rcases(show k=0∨k=1∨k=2 by omega)with rfl|rfl|rfl
  ·exact hg.2.2.2.2.1
  ·exact hg.2.2.2.2.2
  ·exact hg.2.2.2.1
 obtain ⟨e,he,h1,h2⟩:=edgeNo_get hE
 have hv:(itpV m gx gy).getD (edgeNo (esM m.tris) (corT t (k+1)) (corT t (k+2))) 0=eFlow m gx gy e:=by
  rw [List.getD_eq_getElem?_getD]
  unfold itpV
  rw [List.getElem?_map,he]
  rfl
 show outR (itpV m gx gy) (partE _ _ _)=_
 unfold outR partE
 dsimp only
 rw [hv]
 unfold eFlow
 rw [h1,h2]
 unfold sgnE corP
 by_cases hlt:corT t (k+2)<corT t (k+1)
 ·have e1:((min (corT t (k+1)) (corT t (k+2)):Nat):Int).toNat=corT t (k+2):=by omega
  have e2:((max (corT t (k+1)) (corT t (k+2)):Nat):Int).toNat=corT t (k+1):=by omega
  rw [if_pos hlt,e1,e2,flow_anti hx hy]
  show((-1:Int):Rat)*_=_
  have r2:((-1:Int):Rat)= -1:=rfl
  rw [r2]
  grind
 ·have e1:((min (corT t (k+1)) (corT t (k+2)):Nat):Int).toNat=corT t (k+1):=by omega
  have e2:((max (corT t (k+1)) (corT t (k+2)):Nat):Int).toNat=corT t (k+2):=by omega
  rw [if_neg hlt,e1,e2]
  show((1:Int):Rat)*_=_
  have r2:((1:Int):Rat)=1:=rfl
  rw [r2,Rat.one_mul]
theorem itp_net {gx gy:List T} (hx:D4 gx) (hy:D4 gy) (t:Tri) (ht:t∈m.tris):netR (itpV m gx gy) (partsT (esM m.tris) t)=intT (addL (dxL gx) (dyL gy)) (corP m t 0) (corP m t 1) (corP m t 2):=by
 have a0:=itp_out g hx hy t ht 0 (by omega)
 have a1:=itp_out g hx hy t ht 1 (by omega)
 have a2:=itp_out g hx hy t ht 2 (by omega)
 have c3:corP m t 3=corP m t 0:=rfl
 have c4:corP m t 4=corP m t 1:=rfl
 simp only [Nat.zero_add,Nat.reduceAdd]at a0 a1 a2
 rw [c3]at a1 a2
 rw [c4]at a2
 have h:=green hx hy (corP m t 0) (corP m t 1) (corP m t 2)
 have e:netR (itpV m gx gy) (partsT (esM m.tris) t)=((0+outF m (itpV m gx gy) t 0)+outF m (itpV m gx gy) t 1)+outF m (itpV m gx gy) t 2:=rfl
 rw [e,a0,a1,a2,←h]
 grind
theorem itp_own {gx gy:List T} (a b c:Rat) (hx:D4 gx) (hy:D4 gy) (ex:∀f,wt f gx=a*f 0 0+c*f 1 0) (ey:∀f,wt f gy=b*f 0 0+c*f 0 1) (t:Tri) (ht:t∈m.tris):(∀f,wt f (fldX m (itpV m gx gy) t)=wt f gx)∧∀f,wt f (fldY m (itpV m gx gy) t)=wt f gy:=by
 have hby:byT m t*twice (corP m t 0) (corP m t 1) (corP m t 2)=1:=byR_twice (g.twice t ht)
 have a0:=itp_out g hx hy t ht 0 (by omega)
 have a1:=itp_out g hx hy t ht 1 (by omega)
 have a2:=itp_out g hx hy t ht 2 (by omega)
 have c3:corP m t 3=corP m t 0:=rfl
 have c4:corP m t 4=corP m t 1:=rfl
 simp only [Nat.zero_add,Nat.reduceAdd]at a0 a1 a2
 rw [c3]at a1 a2
 rw [c4]at a2
 have F:∀A B:Pt,flowV gx gy A B=(B.y - A.y)*(a+c*((B.x - A.x)*(1 / 2)+A.x)) - (B.x - A.x)*(b+c*((B.y - A.y)*(1 / 2)+A.y)):=fun A B=>by
  unfold flowV
  rw [seg_wt,seg_wt,ex,ey,sg_00,sg_10,sg_01]
  grind
 rw [F]at a0 a1 a2
 rw [twice_e]at hby
 constructor
 ·intro f
  unfold fldX
  rw [wt_fieldX,a0,a1,a2,ex]
  generalize corP m t 0=P0 at *
  generalize corP m t 1=P1 at *
  generalize corP m t 2=P2 at *
  generalize byT m t=q at *
  grind
 ·intro f
  unfold fldY
  rw [wt_fieldY,a0,a1,a2,ey]
  generalize corP m t 0=P0 at *
  generalize corP m t 1=P1 at *
  generalize corP m t 2=P2 at *
  generalize byT m t=q at *
  grind
end
end Go.Proofs.YtfgmdhjmgdccdaaGreat
namespace Go.Proofs.YtfgmdhjmgdccdaaGreat
open Go.RowKit Gus Go.Maps
theorem tot_mul1 (s:T):∀y:List T,tot (y.map (mulT s))≤y.length*(hw s.c+1)+tot y
 | []=>by simp [tot]
 | t :: r=>by
  have h:=tot_mul1 s r
  have h2:=hw_mul s.c t.c
  simp only [List.map_cons,tot,List.length_cons,Nat.succ_mul,mulT]at h ⊢
  omega
theorem tot_prods2 (y:List T):∀x:List T,tot (prods x y)≤y.length*tot x+x.length*tot y
 | []=>by simp [prods,tot]
 | s :: r=>by
  have h:=tot_prods2 y r
  have h1:=tot_mul1 s y
  have e:prods (s :: r) y=y.map (mulT s)++prods r y:=rfl
  rw [e,tot_append]
  have e1:y.length*tot (s :: r)=y.length*(hw s.c+1)+y.length*tot r:=by rw [←Nat.mul_add];rfl
  have e2:(s :: r).length*tot y=tot y+r.length*tot y:=by rw [List.length_cons,Nat.succ_mul,Nat.add_comm]
  omega
theorem tot_mulL2 (a b:List T):tot (mulL a b)≤(gat b).length*tot a+(gat a).length*tot b:=by
 have h1:=tot_gat (prods (gat a) (gat b))
 have h2:=tot_prods2 (gat b) (gat a)
 have h3:(gat b).length*tot (gat a)≤(gat b).length*tot a:=Nat.mul_le_mul_left _ (tot_gat a)
 have h4:(gat a).length*tot (gat b)≤(gat a).length*tot b:=Nat.mul_le_mul_left _ (tot_gat b)
 unfold mulL
 omega
theorem len_lt:∀(n:Nat) (l:List Nat),l.Pairwise (· < ·)→(∀x∈l,x<n)→l.length≤n
 | 0,[],_,_=>by simp
 | 0,x :: r,_,h=>by have:=h x (by simp);omega
 | n+1,l,hp,h=>by
  rcases l.eq_nil_or_concat with rfl|⟨r,x,rfl⟩
  ·simp
  ·rw [List.concat_eq_append]at hp h ⊢
   obtain ⟨h1,_,h2⟩:=List.pairwise_append.1 hp
   have hx:=h x (by simp)
   have:=len_lt n r h1 (fun y hy=>by have:=h2 y hy x (by simp);omega)
   simp
   omega
def codeT (t:T):Nat:=(t.i+t.j)*(t.i+t.j+1) / 2+t.j
theorem len_deg {l:List T} {m:Nat} (hm:m≤4) (h:∀t∈l,t.i+t.j≤m):(gat l).length≤(m+1)*(m+2) / 2:=by
 have hd:∀t∈gat l,t.i+t.j≤m:=fun t ht=>by
  obtain ⟨y,hy,e1,e2⟩:=gat_mem ht
  have:=h y hy
  omega
 have hok:∀t∈l,t.ok:=fun t ht=>by have:=h t ht;show t.i+t.j≤12;omega
 have hs:=(nf_gat hok).sorted
 have hc:∀a∈gat l,∀b∈gat l,ltT a b→codeT a<codeT b:=fun a ha b hb hab=>by
  have h1:=hd a ha
  have h2:=hd b hb
  unfold ltT at hab
  unfold codeT
  generalize ea:a.i+a.j=da at *
  generalize eb:b.i+b.j=db at *
  have k:∀d,d≤4→d*(d+1) / 2+d<(d+1)*(d+2) / 2:=by decide
  rcases hab with hlt|⟨e,hj⟩
  ·have h3:=k da (by omega)
   have h4:(da+1)*(da+2) / 2≤db*(db+1) / 2:=Nat.div_le_div_right (Nat.mul_le_mul (by omega) (by omega))
   omega
  ·subst e
   omega
 have hp:((gat l).map codeT).Pairwise (· < ·):=by
  rw [List.pairwise_map]
  exact hs.imp_of_mem fun {a b} ha hb hab=>hc a ha b hb hab
 have hb:∀x∈(gat l).map codeT,x<(m+1)*(m+2) / 2:=fun x hx=>by
  obtain ⟨t,ht,rfl⟩:=List.mem_map.1 hx
  have h1:=hd t ht
  have k:∀m,m≤4→∀d,d≤m→d*(d+1) / 2+d<(m+1)*(m+2) / 2:=by decide
  have:=k m hm _ h1
  unfold codeT
  omega
 have:=len_lt _ _ hp hb
 simpa using this
end Go.Proofs.YtfgmdhjmgdccdaaGreat
namespace Go.Proofs.YtfgmdhjmgdccdaaGreat
open Go.RowKit Gus Go.Maps
theorem lin0_len (a c:Rat):(linL a 0 c).length≤2:=by
 have hp:(linL a 0 c).Perm (kept (gather [⟨1,0,a⟩,⟨0,1,0⟩,⟨0,0,c⟩])):=sortT_perm _
 rw [hp.length_eq]
 show(List.filter (fun t:T=> !decide (t.c=0)) [⟨1,0,0+a⟩,⟨0,1,0+0⟩,⟨0,0,0+c⟩]).length≤2
 have z:(0:Rat)+0=0:=by decide+kernel
 rw [z,List.filter_cons,List.filter_cons_of_neg (by simp),List.filter_cons]
 split<;>split<;>simp
theorem pow_step {x:List T} {L T0 m:Nat} (hm:m≤4) (hx:∀t∈x,t.i+t.j≤1) (hl:(gat x).length≤L) (ht:tot x≤T0):tot (powL x (m+1))≤L*tot (powL x m)+(m+1)*(m+2) / 2*T0:=by
 have h1:=tot_mulL2 (powL x m) x
 have h2:=len_deg hm (powL_deg hx m)
 have h3:(gat x).length*tot (powL x m)≤L*tot (powL x m):=Nat.mul_le_mul_right _ hl
 have h4:(gat (powL x m)).length*tot x≤(m+1)*(m+2) / 2*T0:=Nat.mul_le_mul h2 ht
 show tot (mulL (powL x m) x)≤_
 omega
theorem pow_two {x:List T} {T0:Nat} (hT:T0≤18) (hx:∀t∈x,t.i+t.j≤1) (hl:(gat x).length≤2) (ht:tot x≤T0):∀m,m≤4→tot (powL x m)≤1000:=by
 have p0:tot (powL x 0)≤3:=by have h1:=tot_constT 1;have h2:hw (1:Rat)≤2:=hw_one;show tot (constT 1)≤_;omega
 have p1:=pow_step (m:=0) (by omega) hx hl ht
 have p2:=pow_step (m:=1) (by omega) hx hl ht
 have p3:=pow_step (m:=2) (by omega) hx hl ht
 have p4:=pow_step (m:=3) (by omega) hx hl ht
 simp only [Nat.reduceAdd,Nat.reduceMul,Nat.reduceDiv]at p1 p2 p3 p4
 intro m hm
 rcases(show m=0∨m=1∨m=2∨m=3∨m=4 by omega)with rfl|rfl|rfl|rfl|rfl<;>omega
theorem pow_three {x:List T} {T0:Nat} (hT:T0≤30) (hx:∀t∈x,t.i+t.j≤1) (ht:tot x≤T0):∀m,m≤3→tot (powL x m)≤1000:=by
 have hl:(gat x).length≤3:=D1.few hx
 have p0:tot (powL x 0)≤3:=by have h1:=tot_constT 1;have h2:hw (1:Rat)≤2:=hw_one;show tot (constT 1)≤_;omega
 have p1:=pow_step (m:=0) (by omega) hx hl ht
 have p2:=pow_step (m:=1) (by omega) hx hl ht
 have p3:=pow_step (m:=2) (by omega) hx hl ht
 simp only [Nat.reduceAdd,Nat.reduceMul,Nat.reduceDiv]at p1 p2 p3
 intro m hm
 rcases(show m=0∨m=1∨m=2∨m=3 by omega)with rfl|rfl|rfl|rfl<;>omega
end Go.Proofs.YtfgmdhjmgdccdaaGreat
namespace Go.Proofs.YtfgmdhjmgdccdaaGreat
open Go.RowKit Gus Go.Maps
theorem shift_tot {x y l:List T} (h:ShiftOk x y l) (M:Nat) (hM:∀t∈l,tot (mulL (powL x t.i) (powL y t.j))≤M):∀n,n≤l.length→(∀u∈shiftA x y (l.take n),u.ok)∧tot (shiftA x y (l.take n))≤M*tot (l.take n)
 | 0,_=>by
  refine⟨fun u hu=>?_,?_⟩
  ·simp [shiftA]at hu
  ·simp [shiftA,tot]
 | n+1,hn=>by
  obtain ⟨h1,h2⟩:=shift_tot h M hM n (by omega)
  have hlt:n<l.length:=by omega
  obtain ⟨t,ht⟩:∃t,l[n]=t:=⟨_,rfl⟩
  have htm:t∈l:=ht ▸ List.getElem_mem hlt
  have e:l.take (n+1)=l.take n++ [t]:=by rw [List.take_add_one,List.getElem?_eq_getElem hlt,ht];rfl
  have k1:=(shift_step h htm).2.2.1
  have k0:=hM t htm
  have k2:=tot_scaleL t.c (mulL (powL x t.i) (powL y t.j))
  have k3:tot (mulL (powL x t.i) (powL y t.j))*(hw t.c+1)≤M*(hw t.c+1):=Nat.mul_le_mul_right _ k0
  have k4:M*tot (l.take n++ [t])=M*tot (l.take n)+M*(hw t.c+1):=by rw [tot_append,Nat.mul_add];rfl
  rw [e,shiftA_snoc]
  refine⟨addL_ok h1 k1,Nat.le_trans (tot_addL _ _) ?_⟩
  omega
theorem shift4 {p:List T} (hp:D4 p) (ht:tot p≤300) {a0 a1 b0 b1:Rat} (ha:hw a0≤4∧hw a1≤4∧hw b0≤4∧hw b1≤4):ShiftOk (linL (b0 - a0) 0 a0) (linL (b1 - a1) 0 a1) (gat p):=by
 have d0:=hw_sub b0 a0
 have d1:=hw_sub b1 a1
 have h0:=hw_0
 have l0:=tot_linL (b0 - a0) 0 a0
 have l1:=tot_linL (b1 - a1) 0 a1
 have hg:=tot_gat p
 have hd:∀t∈gat p,t.i+t.j≤4:=fun t h=>by
  obtain ⟨y,hy,e1,e2⟩:=gat_mem h
  have:=hp y hy
  omega
 have hl:=len_deg (m:=4) (by omega) hp
 have len:∀a c:Rat,(gat (linL a 0 c)).length≤2:=fun a c=>by
  have e:gat (linL a 0 c)=linL a 0 c:=gat_nf (nf_gat (fun t ht=>by
   simp at ht
   rcases ht with rfl|rfl|rfl
   ·show 1+0≤12;omega
   ·show 0+1≤12;omega
   ·show 0+0≤12;omega))
  rw [e]
  exact lin0_len a c
 exact⟨D1.lin _ _,D1.lin _ _,fun t h=>by have:=hd t h;show t.i+t.j≤12;omega,fun t h m hm=>pow_two (T0:=18) (by omega) (D1.lin _ _) (len _ _) (by omega) m (by have:=hd t h;omega),fun t h m hm=>pow_two (T0:=18) (by omega) (D1.lin _ _) (len _ _) (by omega) m (by have:=hd t h;omega),fun t h=>by have:=tot_mem h;omega,by omega⟩
theorem seg_tot {p:List T} (hp:D4 p) (ht:tot p≤300) {a0 a1 b0 b1:Rat} (ha:hw a0≤4∧hw a1≤4∧hw b0≤4∧hw b1≤4):(∀u∈shiftL p (b0 - a0) 0 a0 (b1 - a1) 0 a1,u.ok)∧tot (shiftL p (b0 - a0) 0 a0 (b1 - a1) 0 a1)≤300000000:=by
 have hs:=shift4 hp ht ha (a0:=a0) (a1:=a1) (b0:=b0) (b1:=b1)
 have h:=shift_tot hs 1000000 (fun t ht=>(shift_step hs ht).2.1) (gat p).length (Nat.le_refl _)
 rw [List.take_length]at h
 have hg:=tot_gat p
 exact⟨h.1,by have:=h.2;show tot (shiftA _ _ (gat p))≤_;omega⟩
theorem it_Seg4 (p:List T) (a0 a1 b0 b1:Rat) (v:Value) (w:World) (hS:PL w 0 v p) (hp:D4 p) (ht:tot p≤300) (ha:hw a0≤4∧hw a1≤4∧hw b0≤4∧hw b1≤4):
  Calls Tryz.prog 38 #[v,f2V a0 a1,f2V b0 b1] w (Ret w (fracV (sumV (shiftL p (b0 - a0) 0 a0 (b1 - a1) 0 a1)))):=by
 have h0:=hw_0
 have d0:=hw_sub b0 a0
 have d1:=hw_sub b1 a1
 have hacc:=seg_tot hp ht ha
 refine Seg_raw a0 a1 b0 b1 _ _ _ _ v w (fun W=>it_less b0 b1 a0 a1 W (by omega)) (fun W hW=>?_) (fun W u hu=>it_sum _ u W hu hacc.1 (by omega))
 have h:=po_Shift p (b0 - a0) 0 a0 (b1 - a1) 0 a1 v W (hS.gr hW) (fun t ht=>by have:=hp t ht;show t.i+t.j≤12;omega) (by omega) (by omega) (shift4 hp ht ha)
 have e:fracV (0:Rat)= .agg #[zU,zS,.bool false,zU,zS]:=congrArg (fun l:List Value=>Value.agg l.toArray) zero_cells
 rw [e]at h
 exact h
theorem it_Flow4 (gx gy:List T) (vx vy:Value) (a b:Pt) (w:World) (hx:PL w 0 vx gx) (hy:PL w 0 vy gy) (dx:D4 gx) (dy:D4 gy) (tx:tot gx≤300) (ty:tot gy≤300) (ha:hp a≤4) (hb:hp b≤4):
  Calls Tryz.prog 9 #[vx,vy,f2V a.x a.y,f2V b.x b.y] w (Ret w (fracV (flowV gx gy a b))):=by
 unfold hp at ha hb
 have hab:hw a.x≤4∧hw a.y≤4∧hw b.x≤4∧hw b.y≤4:=by omega
 have d0:=hw_sub b.x a.x
 have d1:=hw_sub b.y a.y
 have key:∀p:List T,D4 p→tot p≤300→hw (sumV (shiftL p (b.x - a.x) 0 a.x (b.y - a.y) 0 a.y))≤50000000000:=by
  intro p hd hl
  have h1:=seg_tot hd hl hab
  have h2:=hw_sumV h1.1 _ (Nat.le_refl _)
  rw [List.take_length]at h2
  omega
 have kx:=key gx dx tx
 have ky:=key gy dy ty
 generalize hX:sumV (shiftL gx (b.x - a.x) 0 a.x (b.y - a.y) 0 a.y)=X at kx
 generalize hY:sumV (shiftL gy (b.x - a.x) 0 a.x (b.y - a.y) 0 a.y)=Y at ky
 have m0:=hw_mul (b.y - a.y) X
 have m1:=hw_mul (b.x - a.x) Y
 have e:flowV gx gy a b=(b.y - a.y)*X - (b.x - a.x)*Y:=by unfold flowV;rw [hX,hY]
 rw [e]
 exact Flow_raw a.x a.y b.x b.y (b.x - a.x) (b.y - a.y) X Y _ _ _ vx vy w (fun W=>it_less b.x b.y a.x a.y W (by omega))
  (fun W hW=>hX ▸ it_Seg4 gx a.x a.y b.x b.y vx W (hx.gr hW) dx tx hab) (fun W hW=>hY ▸ it_Seg4 gy a.x a.y b.x b.y vy W (hy.gr hW) dy ty hab)
  (fun W=>fr_Mul _ _ W (by omega) (by omega)) (fun W=>fr_Mul _ _ W (by omega) (by omega)) (fun W=>fr_Sub _ _ W (by omega) (by omega))
end Go.Proofs.YtfgmdhjmgdccdaaGreat
namespace Go.Proofs.YtfgmdhjmgdccdaaGreat
open Go.RowKit Gus Go.Maps
theorem addL_deg {a b:List T} {k:Nat} (h:∀t∈a,t.i+t.j≤k) (h2:∀t∈b,t.i+t.j≤k):∀t∈addL a b,t.i+t.j≤k:=fun t ht=>by
 obtain ⟨y,hy,e1,e2⟩:=gat_mem ht
 rcases List.mem_append.1 hy with h'|h'
 ·obtain ⟨z,hz,f1,f2⟩:=gat_mem h'
  have:=h z hz
  omega
 ·obtain ⟨z,hz,f1,f2⟩:=gat_mem h'
  have:=h2 z hz
  omega
theorem scaleL_deg {a:List T} {k:Nat} (c:Rat) (h:∀t∈a,t.i+t.j≤k):∀t∈scaleL c a,t.i+t.j≤k:=fun t ht=>by
 obtain ⟨y,hy,e1,e2⟩:=gat_mem ht
 obtain ⟨x,hx,rfl⟩:=List.mem_map.1 hy
 obtain ⟨z,hz,f1,f2⟩:=gat_mem hx
 have:=h z hz
 simp only [T.scale]at e1 e2
 omega
theorem shift_deg {x y:List T} {k:Nat} (hx:∀t∈x,t.i+t.j≤1) (hy:∀t∈y,t.i+t.j≤1):∀(l acc:List T),(∀t∈l,t.i+t.j≤k)→(∀t∈acc,t.i+t.j≤k)→∀u∈l.foldl (fun acc t=>addL acc (scaleL t.c (mulL (powL x t.i) (powL y t.j)))) acc,u.i+u.j≤k
 | [],_,_,h=>h
 | t :: r,acc,hl,h=>by
  refine shift_deg hx hy r _ (fun z hz=>hl z (by simp [hz])) (addL_deg h (scaleL_deg _ fun z hz=>?_))
  have h1:=mulL_deg (powL_deg hx t.i) (powL_deg hy t.j) z hz
  have h2:=hl t (by simp)
  omega
theorem it_Tri3 (p:List T) (v:Value) (a b c:Pt) (w:World) (hS:PL w 0 v p) (hp3:∀t∈p,t.i+t.j≤3) (ht:tot p≤300) (ha:hp a≤4) (hb:hp b≤4) (hc:hp c≤4):
  Calls Tryz.prog 26 #[v,f2V a.x a.y,f2V b.x b.y,f2V c.x c.y] w (Ret w (fracV (intT p a b c))):=by
 have h0:=hw_twice a b c
 unfold hp at h0 ha hb hc
 have d0:=hw_sub b.x a.x
 have d1:=hw_sub b.y a.y
 have d2:=hw_sub c.x a.x
 have d3:=hw_sub c.y a.y
 have hg:=tot_gat p
 have hd:∀t∈gat p,t.i+t.j≤3:=fun t h=>by
  obtain ⟨y,hy,e1,e2⟩:=gat_mem h
  have:=hp3 y hy
  omega
 have dl:∀u v q:Rat,∀t∈linL u v q,t.i+t.j≤1:=fun u v q t h=>by
  obtain ⟨y,hy,e1,e2⟩:=gat_mem h
  simp at hy
  rcases hy with rfl|rfl|rfl<;>simp at e1 e2<;>omega
 have l0:=tot_linL (b.x - a.x) (c.x - a.x) a.x
 have l1:=tot_linL (b.y - a.y) (c.y - a.y) a.y
 have hl:=len_deg (m:=3) (by omega) hp3
 have hs:ShiftOk (linL (b.x - a.x) (c.x - a.x) a.x) (linL (b.y - a.y) (c.y - a.y) a.y) (gat p):=
  ⟨dl _ _ _,dl _ _ _,fun t h=>by have:=hd t h;show t.i+t.j≤12;omega,fun t h m hm=>pow_three (T0:=30) (by omega) (dl _ _ _) (by omega) m (by have:=hd t h;omega),fun t h m hm=>pow_three (T0:=30) (by omega) (dl _ _ _) (by omega) m (by have:=hd t h;omega),fun t h=>by have:=tot_mem h;omega,by omega⟩
 have h:=shift_tot hs 1000000 (fun t ht=>(shift_step hs ht).2.1) (gat p).length (Nat.le_refl _)
 rw [List.take_length]at h
 have hdeg:∀u∈shiftL p (b.x - a.x) (c.x - a.x) a.x (b.y - a.y) (c.y - a.y) a.y,u.i+u.j≤6:=fun u hu=>by
  have:=shift_deg (k:=3) (dl _ _ _) (dl _ _ _) (gat p) [] hd (by simp) u hu
  omega
 have htt:tot (shiftL p (b.x - a.x) (c.x - a.x) a.x (b.y - a.y) (c.y - a.y) a.y)≤300000000:=by have:=h.2;show tot (shiftA _ _ (gat p))≤_;omega
 have hsum:=hw_sumT hdeg _ (Nat.le_refl _)
 rw [List.take_length]at hsum
 have m0:=hw_mul (b.x - a.x) (c.y - a.y)
 have m1:=hw_mul (c.x - a.x) (b.y - a.y)
 have et:(b.x - a.x)*(c.y - a.y) - (c.x - a.x)*(b.y - a.y)=twice a b c:=by rw [twice_e];grind
 refine Tri_raw a.x a.y b.x b.y c.x c.y (b.x - a.x) (b.y - a.y) (c.x - a.x) (c.y - a.y) (twice a b c) _ _ v _ w (fun W=>it_less b.x b.y a.x a.y W (by omega)) (fun W=>it_less c.x c.y a.x a.y W (by omega))
  (fun W hW=>po_Shift p _ _ _ _ _ _ v W (hS.gr hW) (fun t ht=>by have:=hp3 t ht;show t.i+t.j≤12;omega) (by omega) (by omega) hs)
  (fun W=>itwice_raw a.x a.y b.x b.y c.x c.y (b.x - a.x) (b.y - a.y) (c.x - a.x) (c.y - a.y) _ _ _ W (fun W=>it_less b.x b.y a.x a.y W (by omega)) (fun W=>it_less c.x c.y a.x a.y W (by omega)) (fun W=>fr_Mul _ _ W (by omega) (by omega)) (fun W=>fr_Mul _ _ W (by omega) (by omega)) (fun W=>et ▸ fr_Sub _ _ W (by omega) (by omega)))
  (fun W u hu=>it_sumT _ u W hu hdeg (by omega)) (fun W=>fr_Mul _ _ W (by omega) (by omega))
end Go.Proofs.YtfgmdhjmgdccdaaGreat
namespace Go.Proofs.YtfgmdhjmgdccdaaGreat
open Go.RowKit Gus Go.Maps
def ownX (a c:Rat):List T:=addL (constT a) (scaleL c xL)
def ownY (b c:Rat):List T:=addL (constT b) (scaleL c yL)
theorem own_wt (a b c:Rat):(∀f,wt f (ownX a c)=a*f 0 0+c*f 1 0)∧∀f,wt f (ownY b c)=b*f 0 0+c*f 0 1:=by
 constructor
 ·intro f;unfold ownX;rw [wt_addL,wt_constT,wt_scaleL,wt_xL]
 ·intro f;unfold ownY;rw [wt_addL,wt_constT,wt_scaleL,wt_yL]
theorem own_d1 (a b c:Rat):D1 (ownX a c)∧D1 (ownY b c):=⟨(D1.const a).addL (D1.x.scaleL c),(D1.const b).addL (D1.y.scaleL c)⟩
theorem D1.d4 {l:List T} (h:D1 l):D4 l:=fun t ht=>by have:=h t ht;omega
theorem own_tot (a b c:Rat) (ha:hw a≤4) (hb:hw b≤4) (hc:hw c≤4):tot (ownX a c)≤20∧tot (ownY b c)≤20:=by
 have h1:=tot_addL (constT a) (scaleL c xL)
 have h2:=tot_addL (constT b) (scaleL c yL)
 have h3:=tot_constT a
 have h4:=tot_constT b
 have h5:=tot_scl D1.x c
 have h6:=tot_scl D1.y c
 have h7:=tot_xL
 have h8:=tot_yL
 unfold ownX ownY
 omega
theorem own_flow (a b c:Rat) (A B:Pt):flowV (ownX a c) (ownY b c) A B=(B.y - A.y)*(a+c*((B.x - A.x)*(1 / 2)+A.x)) - (B.x - A.x)*(b+c*((B.y - A.y)*(1 / 2)+A.y)):=by
 unfold flowV
 rw [seg_wt,seg_wt,(own_wt a b c).1,(own_wt a b c).2,sg_00,sg_10,sg_01]
 grind
theorem own_hw (a b c:Rat) (A B:Pt) (ha:hw a≤4) (hb:hw b≤4) (hc:hw c≤4) (hA:hp A≤4) (hB:hp B≤4):hw (flowV (ownX a c) (ownY b c) A B)≤200:=by
 unfold hp at hA hB
 rw [own_flow]
 have h2:hw (1 / 2:Rat)≤10:=by decide+kernel
 have d0:=hw_sub B.y A.y
 have d1:=hw_sub B.x A.x
 have e0:=hw_mul (B.x - A.x) (1 / 2)
 have e1:=hw_add ((B.x - A.x)*(1 / 2)) A.x
 have e2:=hw_mul c ((B.x - A.x)*(1 / 2)+A.x)
 have e3:=hw_add a (c*((B.x - A.x)*(1 / 2)+A.x))
 have e4:=hw_mul (B.y - A.y) (a+c*((B.x - A.x)*(1 / 2)+A.x))
 have f0:=hw_mul (B.y - A.y) (1 / 2)
 have f1:=hw_add ((B.y - A.y)*(1 / 2)) A.y
 have f2:=hw_mul c ((B.y - A.y)*(1 / 2)+A.y)
 have f3:=hw_add b (c*((B.y - A.y)*(1 / 2)+A.y))
 have f4:=hw_mul (B.x - A.x) (b+c*((B.y - A.y)*(1 / 2)+A.y))
 have g4:=hw_sub ((B.y - A.y)*(a+c*((B.x - A.x)*(1 / 2)+A.x))) ((B.x - A.x)*(b+c*((B.y - A.y)*(1 / 2)+A.y)))
 omega
theorem flow4_hw {gx gy:List T} (dx:D4 gx) (dy:D4 gy) (tx:tot gx≤300) (ty:tot gy≤300) (a b:Pt) (ha:hp a≤4) (hb:hp b≤4):hw (flowV gx gy a b)≤10000000000:=by
 unfold hp at ha hb
 have hab:hw a.x≤4∧hw a.y≤4∧hw b.x≤4∧hw b.y≤4:=by omega
 have d0:=hw_sub b.x a.x
 have d1:=hw_sub b.y a.y
 have key:∀p:List T,D4 p→tot p≤300→hw (sumV (shiftL p (b.x - a.x) 0 a.x (b.y - a.y) 0 a.y))≤3600000010:=by
  intro p hd hl
  have h1:=seg_tot hd hl hab
  have h2:=hw_sumV h1.1 _ (Nat.le_refl _)
  rw [List.take_length]at h2
  omega
 have kx:=key gx dx tx
 have ky:=key gy dy ty
 have m0:=hw_mul (b.y - a.y) (sumV (shiftL gx (b.x - a.x) 0 a.x (b.y - a.y) 0 a.y))
 have m1:=hw_mul (b.x - a.x) (sumV (shiftL gy (b.x - a.x) 0 a.x (b.y - a.y) 0 a.y))
 have m2:=hw_sub ((b.y - a.y)*sumV (shiftL gx (b.x - a.x) 0 a.x (b.y - a.y) 0 a.y)) ((b.x - a.x)*sumV (shiftL gy (b.x - a.x) 0 a.x (b.y - a.y) 0 a.y))
 unfold flowV
 omega
theorem own_same {m:Msh} (g:GoodF m) (a b c:Rat) (t:Tri) (ht:t∈m.tris):gat (fldX m (itpV m (ownX a c) (ownY b c)) t)=gat (ownX a c)∧gat (fldY m (itpV m (ownX a c) (ownY b c)) t)=gat (ownY b c):=by
 have hd:=own_d1 a b c
 have hf:=fld_d1 m (itpV m (ownX a c) (ownY b c)) t
 obtain ⟨h1,h2⟩:=itp_own g a b c hd.1.d4 hd.2.d4 (own_wt a b c).1 (own_wt a b c).2 t ht
 exact⟨gat_congr hf.1.ok hd.1.ok fun i j=>by rw [cf_wt,cf_wt,h1],gat_congr hf.2.ok hd.2.ok fun i j=>by rw [cf_wt,cf_wt,h2]⟩
theorem itp_hw {m:Msh} (g:GoodF m) {gx gy:List T} {B:Nat} (h:∀A C:Pt,hp A≤4→hp C≤4→hw (flowV gx gy A C)≤B):∀q∈itpV m gx gy,hw q≤B:=fun q hq=>by
 obtain ⟨ed,hed,rfl⟩:=List.mem_map.1 (show q∈(esM m.tris).map (eFlow m gx gy)from hq)
 obtain ⟨p,r,hp',hr',hpN,hrN⟩:=esM_Ends g.good ed hed
 obtain ⟨ea,eb,el,er⟩:=ed
 dsimp only at hp' hr'
 subst hp' hr'
 exact h _ _ (g.pt hpN).2 (g.pt hrN).2
end Go.Proofs.YtfgmdhjmgdccdaaGreat
namespace Go.Proofs.YtfgmdhjmgdccdaaGreat
open Go.RowKit Gus Go.Maps
theorem cf_nz {i j:Nat}:∀ {l:List T},cf l i j≠0→∃y∈l,y.i=i∧y.j=j∧y.c≠0
 | [],h=>absurd rfl h
 | t :: r,h=>by
  by_cases h1:t.i=i∧t.j=j∧t.c≠0
  ·exact⟨t,by simp,h1⟩
  ·have e:cf (t :: r) i j=cf r i j:=by
    show(if t.i=i∧t.j=j then t.c else 0)+cf r i j=cf r i j
    split
    ·rename_i h2
     have h3:t.c=0:=Classical.byContradiction fun h3=>h1 ⟨h2.1,h2.2,h3⟩
     rw [h3,Rat.zero_add]
    ·rw [Rat.zero_add]
   obtain ⟨y,hy,h2⟩:=cf_nz (e ▸ h)
   exact⟨y,by simp [hy],h2⟩
theorem gat_nz {l:List T} (hok:∀t∈l,t.ok) {t:T} (ht:t∈gat l):∃y∈l,y.i=t.i∧y.j=t.j∧y.c≠0:=by
 have hn:=nf_gat hok
 have h1:=cf_at hn.sorted ht
 have h2:=hn.nz t ht
 rw [cf_gat]at h1
 exact cf_nz (h1 ▸ h2)
theorem d4_ok {l:List T} (h:D4 l):∀t∈l,t.ok:=fun t ht=>by have:=h t ht;show t.i+t.j≤12;omega
theorem d4_gat {l:List T} (h:D4 l):D4 (gat l):=fun t ht=>by
 obtain ⟨y,hy,e1,e2⟩:=gat_mem ht
 have:=h y hy
 omega
theorem dxL_deg {l:List T} (h:D4 l):∀t∈dxL l,t.i+t.j≤3:=fun t ht=>by
 obtain ⟨y,hy,e1,e2,e3⟩:=gat_nz (fun u hu=>by
  obtain ⟨x,hx,rfl⟩:=List.mem_map.1 hu
  have:=d4_gat h x hx
  show x.i - 1+x.j≤12
  omega) ht
 obtain ⟨x,hx,rfl⟩:=List.mem_map.1 hy
 have h1:=d4_gat h x hx
 rcases Nat.eq_zero_or_pos x.i with h0|h0
 ·exfalso;apply e3;show x.c*((x.i:Int):Rat)=0;rw [h0];exact Rat.mul_zero _
 ·have f1:x.i - 1=t.i:=e1
  have f2:x.j=t.j:=e2
  omega
theorem dyL_deg {l:List T} (h:D4 l):∀t∈dyL l,t.i+t.j≤3:=fun t ht=>by
 obtain ⟨y,hy,e1,e2,e3⟩:=gat_nz (fun u hu=>by
  obtain ⟨x,hx,rfl⟩:=List.mem_map.1 hu
  have:=d4_gat h x hx
  show x.i+(x.j - 1)≤12
  omega) ht
 obtain ⟨x,hx,rfl⟩:=List.mem_map.1 hy
 have h1:=d4_gat h x hx
 rcases Nat.eq_zero_or_pos x.j with h0|h0
 ·exfalso;apply e3;show x.c*((x.j:Int):Rat)=0;rw [h0];exact Rat.mul_zero _
 ·have f1:x.i=t.i:=e1
  have f2:x.j - 1=t.j:=e2
  omega
def divL (gx gy:List T):List T:=addL (dxL gx) (dyL gy)
theorem div_ok {gx gy:List T} (dx:D4 gx) (dy:D4 gy) (tx:tot gx≤100) (ty:tot gy≤100):(∀t∈divL gx gy,t.i+t.j≤3)∧tot (divL gx gy)≤300∧tot (dxL gx)≤150∧tot (dyL gy)≤150:=by
 refine⟨addL_deg (dxL_deg dx) (dyL_deg dy),?_⟩
 have a1:=tot_gat gx
 have a2:=tot_gat gy
 have b1:=tot_dx (gat gx) (d4_ok (d4_gat dx))
 have b2:=tot_dy (gat gy) (d4_ok (d4_gat dy))
 have c1:=len_deg (m:=4) (by omega) dx
 have c2:=len_deg (m:=4) (by omega) dy
 have d1:=tot_gat ((gat gx).map T.dx)
 have d2:=tot_gat ((gat gy).map T.dy)
 have e:=tot_addL (dxL gx) (dyL gy)
 unfold divL
 unfold dxL dyL at *
 omega
theorem d4_made (l:List TQ):D4 (madeL l):=fun t ht=>by
 obtain ⟨y,hy,e1,e2⟩:=gat_mem ht
 obtain ⟨x,hx,rfl⟩:=List.mem_map.1 hy
 have:=brJ_le x.i x.j
 have f1:brI x.i=t.i:=e1.symm
 have f2:brJ x.i x.j=t.j:=e2.symm
 omega
theorem fld_totB {m:Msh} (g:GoodF m) (t:Tri) (ht:t∈m.tris) (V:List Rat) (hVl:V.length=(esM m.tris).length) (hVb:∀q∈V,hw q≤200):tot (fldX m V t)≤3000∧tot (fldY m V t)≤3000:=by
 have hby:hw (byT m t)≤60:=hw_byR (g.twice t ht) (g.cor t ht 0) (g.cor t ht 1) (g.cor t ht 2)
 have dx:∀k,D1 (baseX (corP m t k) (byT m t)):=fun k=>(d1_bx _ _).1
 have dy:∀k,D1 (baseY (corP m t k) (byT m t)):=fun k=>(d1_bx _ _).2
 have tb:=fun k=>tot_bx (corP m t k) (byT m t) (g.cor t ht k) hby
 have ho:∀k,k<3→hw (outF m V t k)≤202:=fun k hk=>hw_outB hVb _ (g.part hVl t ht k hk) (sgnE_one _ _)
 exact⟨axN_totB (C:=1000) dx (fun k hk=>by have:=tot_scl (dx k) (outF m V t k);have:=ho k hk;have:=(tb k).2.2.1;omega) 3 (by omega),axN_totB (C:=1000) dy (fun k hk=>by have:=tot_scl (dy k) (outF m V t k);have:=ho k hk;have:=(tb k).2.2.2;omega) 3 (by omega)⟩
end Go.Proofs.YtfgmdhjmgdccdaaGreat
namespace Go.Proofs.YtfgmdhjmgdccdaaGreat
open Go.RowKit
section
variable {P:Program} {ops:Array Oper} {Q:Exit→Act→World→Prop} {md:Region.Mode} {S:World→Prop}
def Steps (P:Program) (ops:Array Oper) (Q:Exit→Act→World→Prop) (S:World→Prop) (I:Nat→Option Nat→Act→World→Prop):Nat→List Nat→Prop
 | _,[]=>True
 | k,c :: r=>(∀o a w,I k o a w→wpOp P ops Q c (fun a' w'=>S w'∧I (k+1) o a' w') a w)∧Steps P ops Q S I (k+1) r
def chainOk (md:Region.Mode) (ops:Array Oper) (al:Nat) (e:Array Bool):List Nat→Array Bool→Array Bool→Bool
 | [],lt,lf=>lt == e && Region.ready md ops lf == [al] && lf.setIfInBounds al true == lt
 | c :: r,lt,lf=>Region.ready md ops lt == [c] && (Region.ready md ops lf == [c,al] || Region.ready md ops lf == [al,c]) && lf.setIfInBounds al true == lt && chainOk md ops al e r (lt.setIfInBounds c true) (lf.setIfInBounds c true)
theorem chainA {al:Nat} {e:Array Bool} {I:Nat→Option Nat→Act→World→Prop} {fuel:Nat}
  (ha:∀k a w,I k none a w→wpOp P ops Q al (fun a' w'=>S w'∧∃g,I k (some g) a' w') a w):
  ∀(cs:List Nat) (k:Nat) (lt lf:Array Bool),Steps P ops Q S I k cs→chainOk md ops al e cs lt lf=true→
   (∀g a w,I (k+cs.length) (some g) a w→wpAnyH P md ops Q S fuel e a w)→
   (∀g a w,I k (some g) a w→wpAnyH P md ops Q S (fuel+cs.length) lt a w)∧(∀a w,I k none a w→wpAnyH P md ops Q S (fuel+cs.length+1) lf a w)
 | [],k,lt,lf,_,hc,he=>by
  simp only [chainOk,Bool.and_eq_true,beq_iff_eq]at hc
  obtain ⟨⟨h1,h2⟩,h3⟩:=hc
  subst h1
  have hT:∀g a w,I k (some g) a w→wpAnyH P md ops Q S fuel lt a w:=he
  refine⟨hT,fun a w hI=>wpAnyH_all h2 (by simp) fun i hi=>?_⟩
  have:i=al:=by simpa using hi
  subst this
  exact wpOp_mono (fun a' w' ⟨hs,g,hI'⟩=>⟨hs,h3 ▸ hT g a' w' hI'⟩) (ha k a w hI)
 | c :: r,k,lt,lf,hst,hc,he=>by
  simp only [chainOk,Bool.and_eq_true,Bool.or_eq_true,beq_iff_eq]at hc
  obtain ⟨⟨⟨h1,h2⟩,h3⟩,h4⟩:=hc
  have ih:=chainA ha r (k+1) _ _ hst.2 h4 (fun g a w hI=>he g a w (by
   have e9:k+(c :: r).length=k+1+r.length:=by simp;omega
   rw [e9];exact hI))
  have hT:∀g a w,I k (some g) a w→wpAnyH P md ops Q S (fuel+(c :: r).length) lt a w:=fun g a w hI=>by
   refine wpAnyH_all h1 (by simp) fun i hi=>?_
   have:i=c:=by simpa using hi
   subst this
   exact wpOp_mono (fun a' w' ⟨hs,hI'⟩=>⟨hs,ih.1 g a' w' hI'⟩) (hst.1 _ a w hI)
  refine⟨hT,fun a w hI=>?_⟩
  have key:∀i,i=c∨i=al→wpOp P ops Q i (fun a' w'=>S w'∧wpAnyH P md ops Q S (fuel+(c :: r).length) (lf.setIfInBounds i true) a' w') a w:=fun i hi=>by
   rcases hi with rfl|rfl
   ·exact wpOp_mono (fun a' w' ⟨hs,hI'⟩=>⟨hs,ih.2 a' w' hI'⟩) (hst.1 _ a w hI)
   ·exact wpOp_mono (fun a' w' ⟨hs,g,hI'⟩=>⟨hs,h3 ▸ hT g a' w' hI'⟩) (ha k a w hI)
  rcases h2 with h2|h2
  ·exact wpAnyH_all h2 (by simp) fun i hi=>key i (by simpa using hi)
  ·exact wpAnyH_all h2 (by simp) fun i hi=>key i ((by simpa using hi:i=al∨i=c).symm)
theorem opS {i:Nat} {o:Oper} {K:Act→World→Prop} {a:Act} {w:World} (h:∀K':Act→World→Prop,Shut (∀a w,K a w→K' a w)→if Region.wanted o (yielded ops a.tmps)=true then Oper.wp P o a w K' Q else K' (a.put o.dst undef) w) (ho:ops[i]? =some o:=by rfl):wpOp P ops Q i K a w:=wpOp_step ho h
end
end Go.Proofs.YtfgmdhjmgdccdaaGreat
