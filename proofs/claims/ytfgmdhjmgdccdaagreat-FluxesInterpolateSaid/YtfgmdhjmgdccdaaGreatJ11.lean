/-
  Part 11 of the proof: FracC FracD.
-/
import Derived.Test.YtfgmdhjmgdccdaaGreatJ10
set_option linter.unusedSimpArgs false
set_option linter.unusedVariables false
set_option maxHeartbeats 8000000
namespace Go.Proofs.YtfgmdhjmgdccdaaGreat
open Go.RowKit Gus
def fm (q:Rat):Nat:=q.den - 1
abbrev fracC (q:Rat):List Value:=frC q.num (fm q)
abbrev fracV (q:Rat):Value:=frV q.num (fm q)
abbrev vA (q:Rat):Value:=nA q.num
abbrev vB (q:Rat):Value:=nB q.num
abbrev vC (q:Rat):Value:=nC q.num
abbrev vD (q:Rat):Value:= .int .u64 (lowN (fm q))
abbrev vE (q:Rat):Value:= .string (bigS (fm q))
theorem sgn_neg_iff (n:Int):sgnI n<0↔n<0:=by unfold sgnI;split<;>(try split)<;>omega
theorem lw_num (n:Int) (d:Nat) (h:0<d):(mkRat n d).num=lwN n d:=by
 rw [Rat.num_mkRat,if_neg (by omega),Nat.gcd_comm]
 have hd:Nat.gcd (sz n) d∣sz n:=Nat.gcd_dvd_left _ _
 have hg:0<Nat.gcd (sz n) d:=Nat.gcd_pos_of_pos_right _ h
 show n / ((Nat.gcd (sz n) d:Nat):Int)=_
 unfold lwN
 generalize Nat.gcd (sz n) d=g at *
 obtain ⟨k,hk⟩:=hd
 rw [hk,Nat.mul_div_cancel_left _ hg]
 unfold sgd
 have hn:n=if n<0 then -((g*k:Nat):Int)else((g*k:Nat):Int):=by rw [←hk];unfold sz;split<;>omega
 by_cases h0:n<0
 ·rw [if_pos h0]at hn
  rw [if_pos (by simp [sgn_neg_iff,h0])]
  rw [hn,Int.natCast_mul,←Int.mul_neg,Int.mul_ediv_cancel_left _ (by omega)]
 ·rw [if_neg h0]at hn
  rw [if_neg (by simp [sgn_neg_iff,h0])]
  rw [hn,Int.natCast_mul,Int.mul_ediv_cancel_left _ (by omega)]
theorem lw_den (n:Int) (d:Nat) (h:0<d):(mkRat n d).den=lwD n d+1:=by
 rw [Rat.den_mkRat,if_neg (by omega),Nat.gcd_comm]
 show d / Nat.gcd (sz n) d=_
 unfold lwD
 have hg:0<Nat.gcd (sz n) d:=Nat.gcd_pos_of_pos_right _ h
 have:=Nat.div_pos (Nat.gcd_le_right (sz n) h) hg
 omega
theorem den_fm (q:Rat):q.den=fm q+1:=by have:=q.den_pos;unfold fm;omega
theorem rat_add_whole (a b:Rat) (ha:fm a=0) (hb:fm b=0):(a+b).num=a.num+b.num∧fm (a+b)=0:=by
 have h1:a.den=1:=by rw [den_fm,ha]
 have h2:b.den=1:=by rw [den_fm,hb]
 have h:a+b=mkRat (a.num+b.num) 1:=by rw [Rat.add_def',h1,h2];simp
 rw [h]
 unfold fm
 simp [Rat.num_mkRat,Rat.den_mkRat]
theorem rat_mul_whole (a b:Rat) (ha:fm a=0) (hb:fm b=0):(a*b).num=a.num*b.num∧fm (a*b)=0:=by
 have h1:a.den=1:=by rw [den_fm,ha]
 have h2:b.den=1:=by rw [den_fm,hb]
 have h:a*b=mkRat (a.num*b.num) 1:=by rw [Rat.mul_def,Rat.normalize_eq_mkRat,h1,h2]
 rw [h]
 unfold fm
 simp [Rat.num_mkRat,Rat.den_mkRat]
theorem rat_add_same (a b:Rat) (h:fm a=fm b):a+b=mkRat (a.num+b.num) (fm a+1):=by
 have h2:b.den=a.den:=by rw [den_fm,den_fm,h]
 rw [Rat.add_def',h2,←Int.add_mul,Rat.mkRat_mul_right (by have:=a.den_pos;omega),←den_fm]
theorem rat_add_far (a b:Rat):a+b=mkRat (a.num*((fm b+1:Nat):Int)+b.num*((fm a+1:Nat):Int)) ((fm a+1)*(fm b+1)):=by
 rw [Rat.add_def',←den_fm,←den_fm]
theorem rat_mul_far (a b:Rat):a*b=mkRat (a.num*b.num) ((fm a+1)*(fm b+1)):=by
 rw [Rat.mul_def,Rat.normalize_eq_mkRat,←den_fm,←den_fm]
def cmpQ (a b:Rat):Int:=if a<b then -1 else if a=b then 0 else 1
theorem cmpQ_far (a b:Rat):sgnI (a.num*((fm b+1:Nat):Int) - b.num*((fm a+1:Nat):Int))=cmpQ a b:=by
 rw [←den_fm,←den_fm]
 unfold sgnI cmpQ
 have h1:=Rat.lt_iff a b
 have h2:= @Rat.eq_iff_mul_eq_mul a b
 generalize a.num*(b.den:Int)=x at *
 generalize b.num*(a.den:Int)=y at *
 by_cases ha:a<b
 ·rw [if_pos ha,if_pos (by have:=h1.1 ha;omega)]
 ·rw [if_neg ha,if_neg (by have:=mt h1.2 ha;omega)]
  by_cases hb:a=b
  ·rw [if_pos hb,if_pos (by have:=h2.1 hb;omega)]
  ·rw [if_neg hb,if_neg (by have:=mt h2.2 hb;omega)]
theorem sgnI_mul (x:Int) (d:Nat) (h:0<d):sgnI (x*(d:Int))=sgnI x:=by
 have hd:(0:Int)<d:=by omega
 unfold sgnI
 rcases Int.lt_trichotomy x 0 with hx|hx|hx
 ·rw [if_pos (Int.mul_neg_of_neg_of_pos hx hd),if_pos hx]
 ·subst hx;simp
 ·have:=Int.mul_pos hx hd
  rw [if_neg (by omega),if_neg (by omega),if_neg (by omega),if_neg (by omega)]
theorem cmpQ_same (a b:Rat) (h:fm a=fm b):sgnI (a.num - b.num)=cmpQ a b:=by
 rw [←cmpQ_far,←h,←Int.sub_mul,sgnI_mul _ _ (by omega)]
theorem rat_inv (b:Rat) (_h:b.num≠0):b⁻¹=mkRat (sgd (decide (sgnI b.num<0)) (fm b+1)) (sz b.num):=by
 rw [Rat.inv_def,←den_fm]
 cases hb:b.num with
 | ofNat k=>
  show mkRat _ k=_
  have h1:sz (Int.ofNat k)=k:=rfl
  have h2:¬(sgnI (Int.ofNat k)<0):=by rw [sgn_neg_iff];show ¬((k:Int)<0);omega
  rw [h1,decide_eq_false h2];rfl
 | negSucc k=>
  show Rat.normalize _ (k+1) (Nat.succ_ne_zero k)=_
  have h1:sz (Int.negSucc k)=k+1:=rfl
  have h2:sgnI (Int.negSucc k)<0:=by rw [sgn_neg_iff];omega
  rw [h1,decide_eq_true h2,Rat.normalize_eq_mkRat];rfl
def hw (q:Rat):Nat:=max (wl (sz q.num)) (wl q.den)
theorem hw_num (q:Rat):wl (sz q.num)≤hw q:=Nat.le_max_left _ _
theorem hw_den (q:Rat):wl (fm q+1)≤hw q:=by rw [←den_fm];exact Nat.le_max_right _ _
theorem hw_mk (n:Int) (d:Nat) (h:0<d):hw (mkRat n d)≤max (wl (sz n)) (wl d):=by
 have hn:sz (mkRat n d).num≤sz n:=by
  rw [lw_num n d h];unfold lwN;rw [sgd_abs];exact Nat.div_le_self _ _
 have hd:(mkRat n d).den≤d:=by rw [Rat.den_mkRat,if_neg (by omega)];exact Nat.div_le_self _ _
 have h1:=wl_mono hn
 have h2:=wl_mono hd
 unfold hw;omega
theorem hw_add (a b:Rat):hw (a+b)≤hw a+hw b+1:=by
 rw [rat_add_far]
 have h:=hw_mk (a.num*((fm b+1:Nat):Int)+b.num*((fm a+1:Nat):Int)) ((fm a+1)*(fm b+1)) (Nat.mul_pos (by omega) (by omega))
 have h1:=wl_sz_add (a.num*((fm b+1:Nat):Int)) (b.num*((fm a+1:Nat):Int))
 have h2:=wl_sz_mul a.num ((fm b+1:Nat):Int)
 have h3:=wl_sz_mul b.num ((fm a+1:Nat):Int)
 have h4:=wl_mul (fm a+1) (fm b+1)
 rw [sz_nat]at h2 h3
 have:=hw_num a;have:=hw_num b;have:=hw_den a;have:=hw_den b
 omega
theorem hw_mul (a b:Rat):hw (a*b)≤hw a+hw b:=by
 rw [rat_mul_far]
 have h:=hw_mk (a.num*b.num) ((fm a+1)*(fm b+1)) (Nat.mul_pos (by omega) (by omega))
 have h1:=wl_sz_mul a.num b.num
 have h4:=wl_mul (fm a+1) (fm b+1)
 have:=hw_num a;have:=hw_num b;have:=hw_den a;have:=hw_den b
 omega
theorem fm_neg (a:Rat):fm (-a)=fm a:=by unfold fm;rw [Rat.neg_den]
theorem hw_neg (a:Rat):hw (-a)=hw a:=by unfold hw;rw [Rat.neg_num,Rat.neg_den,sz_neg]
theorem hw_inv (b:Rat) (h:b.num≠0):hw b⁻¹≤hw b:=by
 rw [rat_inv b h]
 have h0:0<sz b.num:=by unfold sz;omega
 have h:=hw_mk (sgd (decide (sgnI b.num<0)) (fm b+1)) (sz b.num) h0
 rw [sgd_abs]at h
 have:=hw_num b;have:=hw_den b
 omega
theorem hw_sub (a b:Rat):hw (a - b)≤hw a+hw b+1:=by
 have:=hw_add a (-b)
 rw [hw_neg]at this
 rw [Rat.sub_eq_add_neg];exact this
theorem lowest_rat (n:Int) (d:Nat) (h:0<d):frV (lwN n d) (lwD n d)=fracV (mkRat n d):=by
 unfold fracV
 have h2:fm (mkRat n d)=lwD n d:=by unfold fm;rw [lw_den n d h];omega
 rw [lw_num n d h,h2]
theorem fr_Add (a b:Rat) (w:World) (ha:hw a≤100000000000) (hb:hw b≤100000000000):Calls Tryz.prog 39 #[fracV a,fracV b] w (Ret w (fracV (a+b))):=by
 have a1:=hw_num a;have a2:=hw_den a;have b1:=hw_num b;have b2:=hw_den b
 by_cases he:fm a=fm b
 ·by_cases h0:fm a=0
  ·obtain ⟨h1,h2⟩:=rat_add_whole a b h0 (by omega)
   unfold fracV
   rw [h1,h2,←he,h0]
   exact Add_whole a.num b.num w (by omega) (by omega)
  ·rw [rat_add_same a b he,←lowest_rat _ _ (by omega)]
   unfold fracV
   rw [←he]
   exact Add_same a.num (fm a) b.num w (by omega) (by omega) (by omega) h0
 ·rw [rat_add_far a b,←lowest_rat _ _ (Nat.mul_pos (by omega) (by omega))]
  by_cases h0:fm a=0
  ·exact Add_far0 a.num (fm a) b.num (fm b) w (by omega) (by omega) (by omega) (by omega) he h0
  ·exact Add_far1 a.num (fm a) b.num (fm b) w (by omega) (by omega) (by omega) (by omega) he h0
theorem fr_Mul (a b:Rat) (w:World) (ha:hw a≤100000000000) (hb:hw b≤100000000000):Calls Tryz.prog 37 #[fracV a,fracV b] w (Ret w (fracV (a*b))):=by
 have a1:=hw_num a;have a2:=hw_den a;have b1:=hw_num b;have b2:=hw_den b
 by_cases h0:fm a=0
 ·by_cases h1:fm b=0
  ·obtain ⟨h2,h3⟩:=rat_mul_whole a b h0 h1
   unfold fracV
   rw [h2,h3,h0,h1]
   exact Mul_whole a.num b.num w (by omega) (by omega)
  ·rw [rat_mul_far a b,←lowest_rat _ _ (Nat.mul_pos (by omega) (by omega))]
   exact Mul_far0 a.num (fm a) b.num (fm b) w (by omega) (by omega) (by omega) (by omega) h0 h1
 ·rw [rat_mul_far a b,←lowest_rat _ _ (Nat.mul_pos (by omega) (by omega))]
  exact Mul_far1 a.num (fm a) b.num (fm b) w (by omega) (by omega) (by omega) (by omega) h0
theorem fr_Cmp (a b:Rat) (w:World) (ha:hw a≤100000000000) (hb:hw b≤100000000000):Calls Tryz.prog 179 #[fracV a,fracV b] w (Ret w (.int .i64 (cmpQ a b))):=by
 have a1:=hw_num a;have a2:=hw_den a;have b1:=hw_num b;have b2:=hw_den b
 by_cases he:fm a=fm b
 ·rw [←cmpQ_same a b he]
  unfold fracV
  rw [←he]
  exact Cmp_same a.num (fm a) b.num w (by omega) (by omega)
 ·rw [←cmpQ_far a b]
  exact Cmp_far a.num (fm a) b.num (fm b) w (by omega) (by omega) (by omega) (by omega) he
set_option maxRecDepth 20000 in
set_option maxHeartbeats 4000000 in
theorem Neg_raw (n:Int) (m:Nat) (w:World):Calls Tryz.prog 77 #[frV n m] w (Ret w (frV (-n) m)):=by
 have hN:=Lh (ints_Neg n)
 generalize -n=r at *
 unfold frV
 go_enter Tryz.func77,Tryz.ntmps77
 go_wp2_with fail
 go_region_held3 (fun w'=>w'.cell? ⟨w.heap.size,0,none⟩=some (nA n)∧w'.cell? ⟨w.heap.size,1,none⟩=some (nB n)∧w'.cell? ⟨w.heap.size,2,none⟩=some (nC n)∧w'.cell? ⟨w.heap.size,3,none⟩=some (nD m)∧w'.cell? ⟨w.heap.size,4,none⟩=some (nE m))
  (first|(simp [go_sem, *];done))
  (first|((go_at_call 115;refine(hN.out _).mono ?_;rintro e w1 ⟨rfl,hg1⟩;(try (with_reducible replace hg1:=Gr.of_drew hg1));have hsz1:=hg1.size;(try simp at hsz1);have hz1_0:w.heap.size<w1.heap.size:=(by omega);have hz1_1:w.heap.size+1<w1.heap.size:=(by omega);obtain ⟨hc1,hf1⟩:=hg1.cells;have HG1:=Lh hg1;clear hg1)))
 go_wp2
 refine ret_row (g:=w.heap.size+1) Tryz.results77 rfl (VB.set (cs:= [zU,zS,.bool false,zU,zS]) ?_ (frC r m) rfl) Tryz.underlying59 rfl info_Frac rfl ⟨rfl,?_⟩
 ·exact vbc HG1 vbb
 ·exact gcc HG1 gzz
theorem fr_Neg (a:Rat) (w:World):Calls Tryz.prog 77 #[fracV a] w (Ret w (fracV (-a))):=by
 unfold fracV
 rw [Rat.neg_num,fm_neg]
 exact Neg_raw _ _ w
set_option maxRecDepth 20000 in
set_option maxHeartbeats 4000000 in
theorem Sign_raw (n:Int) (m:Nat) (w:World):Calls Tryz.prog 88 #[frV n m] w (Ret w (.int .i64 (sgnI n))):=by
 have hN:=Lh (ints_Sign n)
 generalize sgnI n=r at *
 unfold frV
 go_enter Tryz.func88,Tryz.ntmps88
 go_wp2_with fail
 (refine rtu (hN.out _) fun w1 hsz1 hl1 hc1 hf1 HG1=>?_;(try simp at hsz1))
 go_wp2
 go_ret
 exact⟨rfl,by exact gcc HG1 gzz⟩
theorem fr_Sign (a:Rat) (w:World):Calls Tryz.prog 88 #[fracV a] w (Ret w (.int .i64 (sgnI a.num))):=Sign_raw _ _ w
set_option maxRecDepth 20000 in
set_option maxHeartbeats 4000000 in
theorem Sub_raw {n n' r nn:Int} {m m' d dd:Nat} (hN:∀w,Calls Tryz.prog 77 #[frV n' m'] w (Ret w (frV nn dd))) (hA:∀w,Calls Tryz.prog 39 #[frV n m,frV nn dd] w (Ret w (frV r d))) (w:World):Calls Tryz.prog 36 #[frV n m,frV n' m'] w (Ret w (frV r d)):=by
 have hN:=Lh hN
 have hA:=Lh hA
 unfold frV
 go_enter Tryz.func36,Tryz.ntmps36
 go_wp2_with fail
 go_region_held3 (fun w'=>w'.cell? ⟨w.heap.size,0,none⟩=some (nA n)∧w'.cell? ⟨w.heap.size,1,none⟩=some (nB n)∧w'.cell? ⟨w.heap.size,2,none⟩=some (nC n)∧w'.cell? ⟨w.heap.size,3,none⟩=some (nD m)∧w'.cell? ⟨w.heap.size,4,none⟩=some (nE m)∧w'.cell? ⟨w.heap.size+1,0,none⟩=some (nA n')∧w'.cell? ⟨w.heap.size+1,1,none⟩=some (nB n')∧w'.cell? ⟨w.heap.size+1,2,none⟩=some (nC n')∧w'.cell? ⟨w.heap.size+1,3,none⟩=some (nD m')∧w'.cell? ⟨w.heap.size+1,4,none⟩=some (nE m'))
  (first|(simp [go_sem, *];done))
  (first|((go_at_call 77;refine(hN.out _).mono ?_;rintro e w1 ⟨rfl,hg1⟩;(try (with_reducible replace hg1:=Gr.of_drew hg1));have hsz1:=hg1.size;(try simp at hsz1);have hz1_0:w.heap.size<w1.heap.size:=(by omega);have hz1_1:w.heap.size+1<w1.heap.size:=(by omega);have hz1_2:w.heap.size+1+1<w1.heap.size:=(by omega);obtain ⟨hc1,hf1⟩:=hg1.cells;have HG1:=Lh hg1;clear hg1))|((go_at_call 39;refine(hA.out _).mono ?_;rintro e w2 ⟨rfl,hg2⟩;(try (with_reducible replace hg2:=Gr.of_drew hg2));have hsz2:=hg2.size;(try simp at hsz2);have hz2_0:w.heap.size<w2.heap.size:=(by omega);have hz2_1:w.heap.size+1<w2.heap.size:=(by omega);have hz2_2:w.heap.size+1+1<w2.heap.size:=(by omega);obtain ⟨hc2,hf2⟩:=hg2.cells;have HG2:=Lh hg2;clear hg2)))
 go_wp2
 refine ret_row (g:=w.heap.size+1+1) Tryz.results36 rfl (VB.set (cs:= [zU,zS,.bool false,zU,zS]) ?_ (frC r d) rfl) Tryz.underlying59 rfl info_Frac rfl ⟨rfl,?_⟩
 ·exact vbc HG2 (vbc HG1 vbb)
 ·exact gcc HG2 (gcc HG1 gzz)
theorem fr_Sub (a b:Rat) (w:World) (ha:hw a≤100000000000) (hb:hw b≤100000000000):Calls Tryz.prog 36 #[fracV a,fracV b] w (Ret w (fracV (a - b))):=by
 refine Sub_raw (fr_Neg b) (fun w=>?_) w
 rw [Rat.sub_eq_add_neg]
 exact fr_Add a (-b) w ha (by rw [hw_neg];exact hb)
set_option maxRecDepth 20000 in
set_option maxHeartbeats 4000000 in
theorem Int_raw {n:Int} (h1: -9223372036854775808≤n) (h2:n≤9223372036854775807) (w:World):Calls Tryz.prog 28 #[.int .i64 n] w (Ret w (frV n 0)):=by
 have hO:=Lh (ints_Of n h1 h2)
 have hW:=Lh (fr_whole n)
 clear h1 h2
 generalize (0:Nat)=z at *
 unfold frV
 go_enter Tryz.func28,Tryz.ntmps28
 go_wp2_with fail
 (refine rtu (hO.out _) fun w1 hsz1 hl1 hc1 hf1 HG1=>?_;(try simp at hsz1))
 go_wp2_with fail
 (refine rtu (hW.out _) fun w2 hsz2 hl2 hc2 hf2 HG2=>?_;(try simp at hsz2))
 go_wp2
 refine ret_row (g:=w.heap.size) Tryz.results28 rfl (VB.set (cs:= [zU,zS,.bool false,zU,zS]) ?_ (frC n z) rfl) Tryz.underlying59 rfl info_Frac rfl ⟨rfl,?_⟩
 ·exact vbc HG2 (vbc HG1 vbb)
 ·exact gcc HG2 (gcc HG1 gzz)
theorem fr_Int (n:Int) (w:World) (h1: -9223372036854775808≤n) (h2:n≤9223372036854775807):Calls Tryz.prog 28 #[.int .i64 n] w (Ret w (fracV (n:Rat))):=by
 have e1:((n:Rat)).num=n:=rfl
 have e2:fm (n:Rat)=0:=rfl
 unfold fracV
 rw [e1,e2]
 exact Int_raw h1 h2 w
theorem hw_int (n:Int) (h1: -9223372036854775808≤n) (h2:n≤9223372036854775807):hw (n:Rat)≤2:=by
 have e1:((n:Rat)).num=n:=rfl
 have e2:((n:Rat)).den=1:=rfl
 unfold hw
 rw [e1,e2]
 have h3:=wl_lt64 (n:=sz n) (by unfold sz;omega)
 have h4:=wl_lt64 (n:=1) (by omega)
 omega
end Go.Proofs.YtfgmdhjmgdccdaaGreat
namespace Go.Proofs.YtfgmdhjmgdccdaaGreat
open Go.RowKit Gus
theorem ret_row2 {w:World} {g:Nat} {cs:List Value} {P:Program} {fn:Func} {R:Ending→World→Prop} {a:Act} {s k:Nat} {t:TypeId} {d:TypeDesc} {u:Value} (hf:fn.results= #[.cell s t,.tmp k])
  (hs:a.tmps[s]?.getD undef= .pointer (some ⟨g,0,none⟩)) (hk:a.tmps[k]?.getD undef=u)
  (hv:VB w g cs) (hu:P.underlying t=some d) (hd:d.isRow=true) (hi:(P.info? t).map (·.size)=some cs.length) (hD:a.defers= []) (hR:R (.returned (.tuple #[.agg cs.toArray,u])) w):bodyPost P fn R .ret a w:=by
 refine bodyPost_ret (v:= .tuple #[.agg cs.toArray,u]) ?_ hD hR
 have hl:=run_loadVar_mid (P:=P) w g 0 t cs d hv.range hu hd hi
 simp only [results,hf,List.mapM_toArray,List.mapM_cons,List.mapM_nil,Array.getD_eq_getD_getElem?,hs,hk,asAddr,Sem.run_bind,Functor.map]
 simp only [Sem.run_bind',Sem.run_bind,Sem.run_pure,Result.andThen_ok,hl,pure_bind,Function.comp]
 rfl
structure DivS (w wx:World) (n:Int) (m tb:Nat) (rn:Int) (rd:Nat):Prop where
 a:VB wx w.heap.size (frC n m)
 o:VB wx (w.heap.size+1+1) [zU,zS,.bool false,zU,zS]
 t:VB wx tb (frC rn rd)
 far:w.heap.size+1+1<tb
 gr:Gr w.heap.size w wx
theorem DivS.made {w w1 wx:World} {n rn:Int} {m tb rd:Nat} (ha:VB w1 w.heap.size (frC n m)) (ho:VB w1 (w.heap.size+1+1) [zU,zS,.bool false,zU,zS]) (hg:Gr w.heap.size w w1)
  (h:Gr w1.heap.size w1 wx) (ht:VB wx tb (frC rn rd)) (hf:w.heap.size+1+1<tb):DivS w wx n m tb rn rd:=
 ⟨ha.gr h ha.lt,ho.gr h ho.lt,ht,hf,hg.trans (h.mono (Nat.le_of_lt ha.lt))⟩
set_option maxRecDepth 20000 in
set_option maxHeartbeats 4000000 in
theorem Div_raw {n n' tn r:Int} {m m' td d:Nat} (h0:n'≠0) (hm:wl (m'+1)≤100000000000) (_hn:wl (sz n')≤100000000000)
  (ht:∀w,Calls Tryz.prog 80 #[intV (sgd (decide (sgnI n'<0)) (m'+1)),natV (sz n')] w (Ret w (frV tn td)))
  (hM:∀w,Calls Tryz.prog 37 #[frV n m,frV tn td] w (Ret w (frV r d))) (w:World):Calls Tryz.prog 69 #[frV n m,frV n' m'] w (Ret w (.tuple #[frV r d,.int .i64 0])):=by
 have hS:=Lh (Sign_raw n' m')
 have hD:=Lh (fun w=>fr_den n' m' w (by have:=wl_le_succ m';omega))
 have hF:=Lh (ints_From (decide (sgnI n'<0)) (m'+1))
 have hA:=Lh (ints_Abs n')
 have hL:=Lh ht
 have hM:=Lh hM
 have hs0:sgnI n'≠0:=by unfold sgnI;split<;>(try split)<;>omega
 clear h0 hm ht
 generalize sgd (decide (sgnI n'<0)) (m'+1)=fs at *
 generalize m'+1=k at *
 generalize sgnI n'=c at *
 unfold frV
 go_enter Tryz.func69,Tryz.ntmps69
 go_wp2_with fail
 (refine rtt (hS.out _) fun w1 hsz1 hc1 hf1 HG1=>?_;(try simp at hsz1);have hp1_1_0:w.heap.size<w1.heap.size+1:=(by omega);have hp1_1_1:w.heap.size+1<w1.heap.size+1:=(by omega);have hp1_1_2:w.heap.size+1+1<w1.heap.size+1:=(by omega);have hz1_0:w.heap.size<w1.heap.size:=(by omega);have hz1_1:w.heap.size+1<w1.heap.size:=(by omega);have hz1_2:w.heap.size+1+1<w1.heap.size:=(by omega))
 go_wp2_with fail
 have hw0:Gr w.heap.size w w1:=by exact gcc HG1 gzz
 have hva:VB w1 w.heap.size (frC n m):=by exact vbc HG1 vbb
 have hvo:VB w1 (w.heap.size+1+1) [.int .u64 0,.string ⟨#[]⟩,.bool false,.int .u64 0,.string ⟨#[]⟩]:=by exact vbc HG1 vbb
 have HW0:=Lh hw0
 clear hw0
 go_upto_region 4 with fail
 go_cut [6] (fun v wx=> ∃tb,v= .pointer (some ⟨tb,0,none⟩)∧DivS w wx n m tb tn td)
 case first=>
  go_region_held3 (fun w'=>w'.cell? ⟨w.heap.size+1,0,none⟩=some (.int .u64 (lowN (sz n')))∧w'.cell? ⟨w.heap.size+1,1,none⟩=some (.string (bigS (sz n')))∧w'.cell? ⟨w.heap.size+1,2,none⟩=some (.bool (ng n'))∧w'.cell? ⟨w.heap.size+1,3,none⟩=some (.int .u64 (lowN m'))∧w'.cell? ⟨w.heap.size+1,4,none⟩=some (.string (bigS m')))
   (first|(simp [go_sem, *];done))
   (first|((go_at_call 88;refine(hS.out _).mono ?_;rintro e w2 ⟨rfl,hg2⟩;(try (with_reducible replace hg2:=Gr.of_drew hg2));have hsz2:=hg2.size;(try simp at hsz2);(try (have hq2_0:w1.heap.size<w2.heap.size:=(by omega)));have hy2_0:w.heap.size+1<w2.heap.size:=(by omega);have hp2_1_0:w.heap.size+1<w2.heap.size+1:=(by omega);obtain ⟨hc2,hf2⟩:=hg2.cells;have HG2:=Lh hg2;clear hg2))|((go_at_call 82;refine(hD.out _).mono ?_;rintro e w3 ⟨rfl,hg3⟩;(try (with_reducible replace hg3:=Gr.of_drew hg3));have hsz3:=hg3.size;(try simp at hsz3);(try (have hq3_0:w1.heap.size<w3.heap.size:=(by omega)));(try (have hq3_1:w2.heap.size<w3.heap.size:=(by omega)));have hy3_0:w.heap.size+1<w3.heap.size:=(by omega);have hp3_1_0:w.heap.size+1<w3.heap.size+1:=(by omega);obtain ⟨hc3,hf3⟩:=hg3.cells;have HG3:=Lh hg3;clear hg3))|((go_at_call 105;refine(hF.out _).mono ?_;rintro e w4 ⟨rfl,hg4⟩;(try (with_reducible replace hg4:=Gr.of_drew hg4));have hsz4:=hg4.size;(try simp at hsz4);(try (have hq4_0:w1.heap.size<w4.heap.size:=(by omega)));(try (have hq4_1:w2.heap.size<w4.heap.size:=(by omega)));(try (have hq4_2:w3.heap.size<w4.heap.size:=(by omega)));have hy4_0:w.heap.size+1<w4.heap.size:=(by omega);have hp4_1_0:w.heap.size+1<w4.heap.size+1:=(by omega);obtain ⟨hc4,hf4⟩:=hg4.cells;have HG4:=Lh hg4;clear hg4))|((go_at_call 107;refine(hA.out _).mono ?_;rintro e w5 ⟨rfl,hg5⟩;(try (with_reducible replace hg5:=Gr.of_drew hg5));have hsz5:=hg5.size;(try simp at hsz5);(try (have hq5_0:w1.heap.size<w5.heap.size:=(by omega)));(try (have hq5_1:w2.heap.size<w5.heap.size:=(by omega)));(try (have hq5_2:w3.heap.size<w5.heap.size:=(by omega)));(try (have hq5_3:w4.heap.size<w5.heap.size:=(by omega)));have hy5_0:w.heap.size+1<w5.heap.size:=(by omega);have hp5_1_0:w.heap.size+1<w5.heap.size+1:=(by omega);obtain ⟨hc5,hf5⟩:=hg5.cells;have HG5:=Lh hg5;clear hg5))|((go_at_call 80;refine(hL.out _).mono ?_;rintro e w6 ⟨rfl,hg6⟩;(try (with_reducible replace hg6:=Gr.of_drew hg6));have hsz6:=hg6.size;(try simp at hsz6);(try (have hq6_0:w1.heap.size<w6.heap.size:=(by omega)));(try (have hq6_1:w2.heap.size<w6.heap.size:=(by omega)));(try (have hq6_2:w3.heap.size<w6.heap.size:=(by omega)));(try (have hq6_3:w4.heap.size<w6.heap.size:=(by omega)));(try (have hq6_4:w5.heap.size<w6.heap.size:=(by omega)));have hy6_0:w.heap.size+1<w6.heap.size:=(by omega);have hp6_1_0:w.heap.size+1<w6.heap.size+1:=(by omega);obtain ⟨hc6,hf6⟩:=hg6.cells;have HG6:=Lh hg6;clear hg6)))
  all_goals
   go_wp2_with fail
   go_meet
   refine⟨_,rfl,DivS.made hva hvo HW0.out ?_ ?_ ?_⟩
   ·exact gcc HG6 (gcc HG5 (gcc HG4 (gcc HG3 (gcc HG2 gzz))))
   ·(with_reducible (repeat' (first|(refine VB.new' ?_;exact(by first|omega|(simp;done)|(simp;omega)))|apply VB.put2|apply VB.put3|apply VB.put5|refine VB.drew ?_|refine VB.far ?_ ?_ _|refine VB.alloc ?_ _|refine VB.gr ?_ HG6.out ?_|refine VB.gr ?_ HG5.out ?_|refine VB.gr ?_ HG4.out ?_|refine VB.gr ?_ HG3.out ?_|refine VB.gr ?_ HG2.out ?_|omega|(simp;done)|(simp;omega))))
   ·exact(by first|omega|(simp;done)|(simp;omega))
 case rest=>
  clear hva hvo hc1 hf1 HG1
  obtain ⟨tb,rfl,hl⟩:=hcut
  obtain ⟨n0,n1,n2,n3,n4,_,_,_,_,_⟩:=hl.a.five
  obtain ⟨t0,t1,t2,t3,t4,_,_,_,_,_⟩:=hl.t.five
  obtain ⟨o0,o1,o2,o3,o4,of0,of1,of2,of3,of4⟩:=hl.o.five
  have hzc_0:=hl.a.lt
  have hzc_2:=hl.o.lt
  have hzc_t:=hl.t.lt
  have ho:=hl.o
  have HGR:=Lh hl.gr
  clear hl
  go_wp2_with fail
  (refine rtt (hM.out _) fun w2 hsz2 hc2 hf2 HG2=>?_;(try simp at hsz2);have hy2_0:tb<w2.heap.size:=(by omega);have hp2_1_0:w.heap.size<w2.heap.size+1:=(by omega);have hp2_1_1:w.heap.size+1<w2.heap.size+1:=(by omega);have hp2_1_2:w.heap.size+1+1<w2.heap.size+1:=(by omega);have hp2_1_3:tb<w2.heap.size+1:=(by omega);have hz2_0:w.heap.size<w2.heap.size:=(by omega);have hz2_1:w.heap.size+1<w2.heap.size:=(by omega);have hz2_2:w.heap.size+1+1<w2.heap.size:=(by omega))
  go_wp2
  refine ret_row2 (g:=w.heap.size+1+1) Tryz.results69 rfl rfl (VB.set (cs:= [.int .u64 0,.string ⟨#[]⟩,.bool false,.int .u64 0,.string ⟨#[]⟩]) ?_ (frC r d) rfl) Tryz.underlying59 rfl info_Frac rfl ⟨rfl,?_⟩
  ·exact vbc HG2 ho
  ·exact gcc HG2 (gcc HGR gzz)
theorem fr_Div (a b:Rat) (w:World) (ha:hw a≤100000000000) (hb:hw b≤100000000000) (h0:b.num≠0):Calls Tryz.prog 69 #[fracV a,fracV b] w (Ret w (.tuple #[fracV (a / b),.int .i64 0])):=by
 have b1:=hw_num b;have b2:=hw_den b
 have hz:0<sz b.num:=by unfold sz;omega
 rw [Rat.div_def]
 refine Div_raw h0 (by omega) (by omega) (fun w=>?_) (fun w=>fr_Mul a b⁻¹ w ha (Nat.le_trans (hw_inv b h0) hb)) w
 have hl:=fr_lowest (sgd (decide (sgnI b.num<0)) (fm b+1)) (sz b.num) w (by rw [sgd_abs];omega) (by omega) hz
 rw [lowest_rat _ _ hz,←rat_inv b h0]at hl
 exact hl
set_option maxRecDepth 20000 in
set_option maxHeartbeats 4000000 in
theorem Of_raw {n d r:Int} {td:Nat} {q1 q2:Rat} (h1:∀w,Calls Tryz.prog 28 #[.int .i64 n] w (Ret w (fracV q1))) (h2:∀w,Calls Tryz.prog 28 #[.int .i64 d] w (Ret w (fracV q2)))
  (h3:∀w,Calls Tryz.prog 69 #[fracV q1,fracV q2] w (Ret w (.tuple #[frV r td,.int .i64 0]))) (w:World):Calls Tryz.prog 29 #[.int .i64 n,.int .i64 d] w (Ret w (.tuple #[frV r td,.int .i64 0])):=by
 have h1:=Lh h1
 have h2:=Lh h2
 have h3:=Lh h3
 unfold fracV frV at *
 generalize q1.num=n1 at *
 generalize q2.num=n2 at *
 generalize fm q1=m1 at *
 generalize fm q2=m2 at *
 go_enter Tryz.func29,Tryz.ntmps29
 go_wp2_with fail
 (refine rtt (h1.out _) fun w1 hsz1 hc1 hf1 HG1=>?_;(try simp at hsz1);have hp1_1_0:w.heap.size<w1.heap.size+1:=(by omega);have hz1_0:w.heap.size<w1.heap.size:=(by omega))
 go_wp2_with fail
 (refine rtt (h2.out _) fun w2 hsz2 hc2 hf2 HG2=>?_;(try simp at hsz2);have hp2_1_0:w.heap.size<w2.heap.size+1:=(by omega);have hz2_0:w.heap.size<w2.heap.size:=(by omega))
 go_wp2_with fail
 (refine rtt (h3.out _) fun w3 hsz3 hc3 hf3 HG3=>?_;(try simp at hsz3);have hp3_1_0:w.heap.size<w3.heap.size+1:=(by omega);have hz3_0:w.heap.size<w3.heap.size:=(by omega))
 go_wp2
 refine ret_row2 (g:=w.heap.size) Tryz.results29 rfl rfl (VB.set (cs:= [zU,zS,.bool false,zU,zS]) ?_ (frC r td) rfl) Tryz.underlying59 rfl info_Frac rfl ⟨rfl,?_⟩
 ·exact vbc HG3 (vbc HG2 (vbc HG1 vbb))
 ·exact gcc HG3 (gcc HG2 (gcc HG1 gzz))
theorem fr_Of (n d:Int) (w:World) (h1: -9223372036854775808≤n) (h2:n≤9223372036854775807) (h3: -9223372036854775808≤d) (h4:d≤9223372036854775807) (h0:d≠0):Calls Tryz.prog 29 #[.int .i64 n,.int .i64 d] w (Ret w (.tuple #[fracV ((n:Rat) / (d:Rat)),.int .i64 0])):=
 Of_raw (fun w=>fr_Int n w h1 h2) (fun w=>fr_Int d w h3 h4) (fun w=>fr_Div _ _ w (by have:=hw_int n h1 h2;omega) (by have:=hw_int d h3 h4;omega) h0) w
end Go.Proofs.YtfgmdhjmgdccdaaGreat
