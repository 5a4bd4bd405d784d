/-
  Part 1 of the proof: Num.
-/
set_option linter.unusedSimpArgs false
set_option linter.unusedVariables false
set_option maxHeartbeats 8000000
namespace Gus
theorem pow_succ32 (n:Nat):4294967296 ^ (n+1)=4294967296 ^ n*4294967296:=Nat.pow_succ 4294967296 n
theorem pow_pos32 (n:Nat):0<4294967296 ^ n:=Nat.pow_pos (by omega)
def vf (f:Nat→Nat):Nat→Nat
 | 0=>0
 | n+1=>vf f n+f n*4294967296 ^ n
def dig (n i:Nat):Nat:=n / 4294967296 ^ i % 4294967296
theorem dig_lt (n i:Nat):dig n i<4294967296:=Nat.mod_lt _ (by omega)
theorem vf_congr {f g:Nat→Nat}:∀ {n:Nat},(∀i,i<n→f i=g i)→vf f n=vf g n
 | 0,_=>rfl
 | n+1,h=>by
  unfold vf
  rw [vf_congr (n:=n) (fun i hi=>h i (by omega)),h n (by omega)]
theorem vf_lt {f:Nat→Nat}:∀ {n:Nat},(∀i,i<n→f i<4294967296)→vf f n<4294967296 ^ n
 | 0,_=>by simp [vf]
 | n+1,h=>by
  have h1:=vf_lt (n:=n) (fun i hi=>h i (by omega))
  have h2:=h n (by omega)
  unfold vf
  rw [pow_succ32]
  have h3:f n*4294967296 ^ n≤4294967295*4294967296 ^ n:=Nat.mul_le_mul_right _ (by omega)
  omega
theorem vf_dig (n:Nat):∀m,vf (dig n) m=n % 4294967296 ^ m
 | 0=>by simp [vf,Nat.mod_one]
 | m+1=>by
  unfold vf
  rw [vf_dig n m,pow_succ32]
  unfold dig
  rw [Nat.mod_mul,Nat.mul_comm (4294967296 ^ m)]
def wl (n:Nat):Nat:=if h:n=0 then 0 else wl (n / 4294967296)+1
termination_by n
decreasing_by omega
theorem wl_zero:wl 0=0:=by unfold wl;simp
theorem wl_pos {n:Nat} (h:n≠0):wl n=wl (n / 4294967296)+1:=by
 rw [wl];simp [h]
theorem lt_pow_wl (n:Nat):n<4294967296 ^ wl n:=by
 induction n using Nat.strongRecOn with
 | ind n ih=>
  by_cases h:n=0
  ·subst h;simp [wl_zero]
  ·rw [wl_pos h,pow_succ32]
   have:=ih (n / 4294967296) (by omega)
   omega
theorem pow_wl_le {n:Nat} (h:n≠0):4294967296 ^ (wl n - 1)≤n:=by
 induction n using Nat.strongRecOn with
 | ind n ih=>
  rw [wl_pos h]
  by_cases h1:n / 4294967296=0
  ·rw [h1,wl_zero];simp;omega
  ·have h2:=ih (n / 4294967296) (by omega) h1
   have h3:wl (n / 4294967296)≠0:=by rw [wl_pos h1];omega
   have h4:wl (n / 4294967296)+1 - 1=(wl (n / 4294967296) - 1)+1:=by omega
   rw [h4,pow_succ32]
   omega
theorem wl_le_iff (n m:Nat):wl n≤m↔n<4294967296 ^ m:=by
 constructor
 ·intro h
  exact Nat.lt_of_lt_of_le (lt_pow_wl n) (Nat.pow_le_pow_right (by omega) h)
 ·intro h
  by_cases h0:n=0
  ·subst h0;simp [wl_zero]
  ·have h1:=pow_wl_le h0
   have h2:4294967296 ^ (wl n - 1)<4294967296 ^ m:=Nat.lt_of_le_of_lt h1 h
   have h3:=(Nat.pow_lt_pow_iff_right (by omega:1<4294967296)).1 h2
   omega
theorem wl_mono {a b:Nat} (h:a≤b):wl a≤wl b:=(wl_le_iff _ _).2 (Nat.lt_of_le_of_lt h (lt_pow_wl b))
theorem wl_mul (a b:Nat):wl (a*b)≤wl a+wl b:=by
 rw [wl_le_iff,Nat.pow_add]
 exact Nat.mul_lt_mul'' (lt_pow_wl a) (lt_pow_wl b)
theorem wl_add (a b:Nat):wl (a+b)≤max (wl a) (wl b)+1:=by
 rw [wl_le_iff,pow_succ32]
 have h1:=Nat.lt_of_lt_of_le (lt_pow_wl a) (Nat.pow_le_pow_right (by omega) (Nat.le_max_left (wl a) (wl b)):4294967296 ^ wl a≤_)
 have h2:=Nat.lt_of_lt_of_le (lt_pow_wl b) (Nat.pow_le_pow_right (by omega) (Nat.le_max_right (wl a) (wl b)):4294967296 ^ wl b≤_)
 omega
theorem wl_lt64 {n:Nat} (h:n<18446744073709551616):wl n≤2:=(wl_le_iff n 2).2 (by omega)
theorem wl_big {n:Nat} (h:18446744073709551616≤n):3≤wl n:=by
 rcases Nat.lt_or_ge (wl n) 3 with h1|h1
 ·have:=(wl_le_iff n 2).1 (by omega);omega
 ·exact h1
theorem dig_top {n:Nat} (h:n≠0):dig n (wl n - 1)≠0:=by
 unfold dig
 have h1:=pow_wl_le h
 have h2:=lt_pow_wl n
 have h3:0<wl n:=by rw [wl_pos h];omega
 obtain ⟨k,hk⟩:∃k,wl n=k+1:=⟨wl n - 1,by omega⟩
 rw [hk]at h1 h2 ⊢
 rw [Nat.add_sub_cancel]at *
 rw [pow_succ32]at h2
 have hq:1≤n / 4294967296 ^ k:=(Nat.one_le_div_iff (pow_pos32 k)).2 h1
 have hq2:n / 4294967296 ^ k<4294967296:=by
  rw [Nat.div_lt_iff_lt_mul (pow_pos32 k)];rw [Nat.mul_comm];exact h2
 omega
theorem dig_of_ge {n i:Nat} (h:wl n≤i):dig n i=0:=by
 unfold dig
 rw [Nat.div_eq_of_lt ((wl_le_iff n i).1 h)]
theorem vf_zero_above {f:Nat→Nat} {m:Nat}:∀n,m≤n→(∀i,m≤i→i<n→f i=0)→vf f n=vf f m
 | 0,h,_=>by obtain rfl:m=0:=by omega
             rfl
 | n+1,h,hz=>by
  by_cases he:m=n+1
  ·subst he;rfl
  ·rw [show vf f (n+1)=vf f n+f n*4294967296 ^ n from rfl,vf_zero_above n (by omega) (fun i h1 h2=>hz i h1 (by omega)),hz n (by omega) (by omega)]
   simp
theorem vf_top_le {f:Nat→Nat} (k:Nat):f k*4294967296 ^ k≤vf f (k+1):=by
 unfold vf;omega
theorem wl_vf {f:Nat→Nat} {m:Nat} (hd:∀i,i<m→f i<4294967296) (ht:m=0∨f (m - 1)≠0):wl (vf f m)=m:=by
 have h1:wl (vf f m)≤m:=(wl_le_iff _ _).2 (vf_lt hd)
 rcases ht with ht|ht
 ·omega
 ·rcases Nat.lt_or_ge (wl (vf f m)) m with h|h
  ·exfalso
   have h2:=(wl_le_iff (vf f m) (m - 1)).1 (by omega)
   have h3:=vf_top_le (f:=f) (m - 1)
   have hm:m - 1+1=m:=by omega
   rw [hm]at h3
   have h4:4294967296 ^ (m - 1)≤f (m - 1)*4294967296 ^ (m - 1):=Nat.le_mul_of_pos_left _ (by omega)
   omega
  ·omega
theorem dig_vf {f:Nat→Nat}:∀ {m:Nat},(∀i,i<m→f i<4294967296)→∀i,i<m→dig (vf f m) i=f i
 | 0,_,i,hi=>by omega
 | m+1,hd,i,hi=>by
  unfold vf dig
  by_cases he:i=m
  ·subst he
   rw [Nat.mul_comm (f i),Nat.add_mul_div_left _ _ (pow_pos32 i),Nat.div_eq_of_lt (vf_lt fun j hj=>hd j (by omega))]
   have:=hd i (by omega)
   rw [Nat.zero_add,Nat.mod_eq_of_lt this]
  ·have h1:=dig_vf (m:=m) (fun j hj=>hd j (by omega)) i (by omega)
   unfold dig at h1
   rw [←h1]
   obtain ⟨k,hk⟩:∃k,m=i+1+k:=⟨m - i - 1,by omega⟩
   have e:f m*4294967296 ^ m=4294967296 ^ i*(4294967296*(f m*4294967296 ^ k)):=by
    rw [hk,Nat.pow_add,Nat.pow_add]
    simp only [Nat.pow_one]
    simp only [Nat.mul_assoc,Nat.mul_comm,Nat.mul_left_comm]
   rw [e,Nat.add_mul_div_left _ _ (pow_pos32 i),Nat.add_mul_mod_self_left]
def byteN (n i:Nat):Nat:=n / 256 ^ i % 256
theorem byteN_lt (n i:Nat):byteN n i<256:=Nat.mod_lt _ (by omega)
def bigS (n:Nat):ByteArray:=if n<18446744073709551616 then⟨#[]⟩else⟨((List.range (4*wl n)).map fun i=>UInt8.ofNat (byteN n i)).toArray⟩
def lowN (n:Nat):Nat:=if n<18446744073709551616 then n else 0
theorem lowN_small {n:Nat} (h:n<18446744073709551616):lowN n=n:=by simp [lowN,h]
theorem lowN_big {n:Nat} (h:18446744073709551616≤n):lowN n=0:=by unfold lowN;rw [if_neg (by omega)]
theorem bigS_small {n:Nat} (h:n<18446744073709551616):bigS n=⟨#[]⟩:=by simp [bigS,h]
theorem bigS_size {n:Nat} (h:18446744073709551616≤n):(bigS n).size=4*wl n:=by
 unfold bigS;rw [if_neg (by omega)];simp [ByteArray.size]
theorem bigS_get {n i:Nat} (h:18446744073709551616≤n) (hi:i<(bigS n).size):(bigS n)[i].toNat=byteN n i:=by
 have e:bigS n=⟨((List.range (4*wl n)).map fun i=>UInt8.ofNat (byteN n i)).toArray⟩:=by unfold bigS;rw [if_neg (by omega)]
 have hb:=byteN_lt n i
 show((bigS n).data[i]'hi).toNat=_
 simp only [e]
 simp
 omega
theorem bigS_nil_iff (n:Nat):(bigS n).size=0↔n<18446744073709551616:=by
 constructor
 ·intro h
  rcases Nat.lt_or_ge n 18446744073709551616 with h1|h1
  ·exact h1
  ·have:=bigS_size h1;have:=wl_big h1;omega
 ·intro h;rw [bigS_small h];rfl
theorem word_of_bytes (n i:Nat):byteN n (4*i)+byteN n (4*i+1)*256+byteN n (4*i+2)*65536+byteN n (4*i+3)*16777216=dig n i:=by
 unfold byteN dig
 have e0:(256:Nat) ^ (4*i)=4294967296 ^ i:=by rw [Nat.pow_mul]
 have e1:(256:Nat) ^ (4*i+1)=4294967296 ^ i*256:=by rw [Nat.pow_add,e0]
 have e2:(256:Nat) ^ (4*i+2)=4294967296 ^ i*65536:=by rw [Nat.pow_add,e0]
 have e3:(256:Nat) ^ (4*i+3)=4294967296 ^ i*16777216:=by rw [Nat.pow_add,e0]
 rw [e0,e1,e2,e3,←Nat.div_div_eq_div_mul,←Nat.div_div_eq_div_mul,←Nat.div_div_eq_div_mul]
 generalize n / 4294967296 ^ i=q
 omega
theorem vf_split (f:Nat→Nat) (i:Nat):∀m,vf f (i+m)=vf f i+4294967296 ^ i*vf (fun j=>f (i+j)) m
 | 0=>by simp [vf]
 | m+1=>by
  rw [show i+(m+1)=(i+m)+1 from rfl,show vf f (i+m+1)=vf f (i+m)+f (i+m)*4294967296 ^ (i+m)from rfl,vf_split f i m,
   show vf (fun j=>f (i+j)) (m+1)=vf (fun j=>f (i+j)) m+f (i+m)*4294967296 ^ m from rfl,Nat.pow_add,Nat.mul_add]
  have:f (i+m)*(4294967296 ^ i*4294967296 ^ m)=4294967296 ^ i*(f (i+m)*4294967296 ^ m):=by
   ac_rfl
  omega
def adC (u v:Nat→Nat):Nat→Nat
 | 0=>0
 | i+1=>(u i+v i+adC u v i) / 4294967296
def adU (u v:Nat→Nat) (i:Nat):Nat:=(u i+v i+adC u v i) % 4294967296
theorem adU_lt (u v:Nat→Nat) (i:Nat):adU u v i<4294967296:=Nat.mod_lt _ (by omega)
theorem adC_le {u v:Nat→Nat}:∀ {n:Nat},(∀i,i<n→u i<4294967296)→(∀i,i<n→v i<4294967296)→adC u v n≤1
 | 0,_,_=>by simp [adC]
 | n+1,hu,hv=>by
  have h1:=adC_le (n:=n) (fun i hi=>hu i (by omega)) (fun i hi=>hv i (by omega))
  have h2:=hu n (by omega)
  have h3:=hv n (by omega)
  show(u n+v n+adC u v n) / 4294967296≤1
  omega
theorem step_eq (a b c d p:Nat) (h:a=b+4294967296*c) (hd:d=b*p+c*(p*4294967296)):d=a*p:=by
 subst h;rw [hd,Nat.add_mul];congr 1
 ac_rfl
theorem vf_ad (u v:Nat→Nat):∀n,vf (adU u v) n+adC u v n*4294967296 ^ n=vf u n+vf v n
 | 0=>by simp [vf,adC]
 | n+1=>by
  have h1:=vf_ad u v n
  show vf (adU u v) n+adU u v n*4294967296 ^ n+((u n+v n+adC u v n) / 4294967296)*4294967296 ^ (n+1)=vf u n+u n*4294967296 ^ n+(vf v n+v n*4294967296 ^ n)
  have h2:adU u v n*4294967296 ^ n+((u n+v n+adC u v n) / 4294967296)*4294967296 ^ (n+1)=(u n+v n+adC u v n)*4294967296 ^ n:=by
   rw [pow_succ32]
   exact step_eq _ _ _ _ _ (by unfold adU;omega) rfl
  rw [Nat.add_mul,Nat.add_mul]at h2
  omega
def sbL (u v:Nat→Nat):Nat→Nat
 | 0=>0
 | i+1=>if u i<v i+sbL u v i then 1 else 0
def sbU (u v:Nat→Nat) (i:Nat):Nat:=(u i+8589934592 - v i - sbL u v i) % 4294967296
theorem sbU_lt (u v:Nat→Nat) (i:Nat):sbU u v i<4294967296:=Nat.mod_lt _ (by omega)
theorem sbL_le (u v:Nat→Nat):∀n,sbL u v n≤1
 | 0=>by simp [sbL]
 | n+1=>by show(if u n<v n+sbL u v n then 1 else 0)≤1;split<;>omega
theorem vf_sb {u v:Nat→Nat}:∀n,(∀i,i<n→u i<4294967296)→(∀i,i<n→v i<4294967296)→
  vf u n+sbL u v n*4294967296 ^ n=vf (sbU u v) n+vf v n
 | 0,_,_=>by simp [vf,sbL]
 | n+1,hu,hv=>by
  have h1:=vf_sb n (fun i hi=>hu i (by omega)) (fun i hi=>hv i (by omega))
  have h2:=hu n (by omega)
  have h3:=hv n (by omega)
  have h4:=sbL_le u v n
  show vf u n+u n*4294967296 ^ n+sbL u v (n+1)*4294967296 ^ (n+1)=vf (sbU u v) n+sbU u v n*4294967296 ^ n+(vf v n+v n*4294967296 ^ n)
  have e:u n+4294967296*sbL u v (n+1)=sbU u v n+v n+sbL u v n:=by
   show u n+4294967296*(if u n<v n+sbL u v n then 1 else 0)=_
   unfold sbU
   split<;>omega
  have h5:u n*4294967296 ^ n+sbL u v (n+1)*4294967296 ^ (n+1)=(sbU u v n+v n+sbL u v n)*4294967296 ^ n:=by
   rw [pow_succ32];exact step_eq _ _ _ _ _ e.symm rfl
  rw [Nat.add_mul,Nat.add_mul]at h5
  omega
def mlC (d:Nat) (v o:Nat→Nat):Nat→Nat
 | 0=>0
 | i+1=>(mlC d v o i+(d*v i+o i)) / 4294967296
def mlU (d:Nat) (v o:Nat→Nat) (i:Nat):Nat:=(mlC d v o i+(d*v i+o i)) % 4294967296
theorem mlU_lt (d:Nat) (v o:Nat→Nat) (i:Nat):mlU d v o i<4294967296:=Nat.mod_lt _ (by omega)
theorem mul_word_le {a b:Nat} (ha:a<4294967296) (hb:b<4294967296):a*b≤18446744065119617025:=by
 have:=Nat.mul_le_mul (show a≤4294967295 by omega) (show b≤4294967295 by omega)
 omega
theorem mlC_lt {d:Nat} {v o:Nat→Nat} (hd:d<4294967296):∀ {n:Nat},(∀i,i<n→v i<4294967296)→(∀i,i<n→o i<4294967296)→mlC d v o n<4294967296
 | 0,_,_=>by simp [mlC]
 | n+1,hv,ho=>by
  have h1:=mlC_lt hd (n:=n) (fun i hi=>hv i (by omega)) (fun i hi=>ho i (by omega))
  have h2:=mul_word_le hd (hv n (by omega))
  have h3:=ho n (by omega)
  show(mlC d v o n+(d*v n+o n)) / 4294967296<4294967296
  omega
theorem vf_ml (d:Nat) (v o:Nat→Nat):∀n,vf (mlU d v o) n+mlC d v o n*4294967296 ^ n=d*vf v n+vf o n
 | 0=>by simp [vf,mlC]
 | n+1=>by
  have h1:=vf_ml d v o n
  show vf (mlU d v o) n+mlU d v o n*4294967296 ^ n+((mlC d v o n+(d*v n+o n)) / 4294967296)*4294967296 ^ (n+1)=d*(vf v n+v n*4294967296 ^ n)+(vf o n+o n*4294967296 ^ n)
  have h2:mlU d v o n*4294967296 ^ n+((mlC d v o n+(d*v n+o n)) / 4294967296)*4294967296 ^ (n+1)=(mlC d v o n+(d*v n+o n))*4294967296 ^ n:=by
   rw [pow_succ32]
   exact step_eq _ _ _ _ _ (by unfold mlU;omega) rfl
  rw [Nat.add_mul,Nat.add_mul]at h2
  have h3:d*(vf v n+v n*4294967296 ^ n)=d*vf v n+d*v n*4294967296 ^ n:=by rw [Nat.mul_add,Nat.mul_assoc]
  omega
def muO (x y:Nat→Nat) (ly:Nat):Nat→Nat→Nat
 | 0,_=>0
 | i+1,j=>if j<i then muO x y ly i j else if j<i+ly then mlU (x i) y (fun t=>muO x y ly i (i+t)) (j - i)
   else if j=i+ly then mlC (x i) y (fun t=>muO x y ly i (i+t)) ly else muO x y ly i j
theorem muO_lt {x y:Nat→Nat} {ly:Nat}:∀(i:Nat),(∀t,t<i→x t<4294967296)→(∀t,t<ly→y t<4294967296)→∀j,muO x y ly i j<4294967296
 | 0,_,_,j=>by show 0< _;omega
 | i+1,hx,hy,j=>by
  have ih:=muO_lt (y:=y) (ly:=ly) i (fun t ht=>hx t (by omega)) hy
  show(if j<i then _ else _)< _
  split
  ·exact ih j
  ·split
   ·exact mlU_lt _ _ _ _
   ·split
    ·exact mlC_lt (hx i (by omega)) hy (fun t _=>ih _)
    ·exact ih j
theorem vf_muO {x y:Nat→Nat} {ly:Nat}:∀(i:Nat),vf (muO x y ly i) (i+ly)=vf x i*vf y ly
 | 0=>by
  rw [show vf x 0=0 from rfl,Nat.zero_mul,Nat.zero_add]
  have h:=vf_zero_above (f:=muO x y ly 0) (m:=0) ly (by omega) (fun _ _ _=>rfl)
  rw [h];rfl
 | i+1=>by
  have h1:=vf_muO (x:=x) (y:=y) (ly:=ly) i
  have e1:i+1+ly=i+(ly+1):=by omega
  rw [e1,vf_split]
  have e2:vf (muO x y ly (i+1)) i=vf (muO x y ly i) i:=vf_congr fun j hj=>by
   show(if j<i then _ else _)=_
   rw [if_pos hj]
  have e3:vf (fun j=>muO x y ly (i+1) (i+j)) (ly+1)=vf (mlU (x i) y (fun t=>muO x y ly i (i+t))) ly+mlC (x i) y (fun t=>muO x y ly i (i+t)) ly*4294967296 ^ ly:=by
   show vf (fun j=>muO x y ly (i+1) (i+j)) ly+muO x y ly (i+1) (i+ly)*4294967296 ^ ly=_
   congr 1
   ·refine vf_congr fun j hj=>?_
    show(if i+j<i then _ else _)=_
    rw [if_neg (by omega),if_pos (by omega),Nat.add_sub_cancel_left]
   ·congr 1
    show(if i+ly<i then _ else _)=_
    rw [if_neg (by omega),if_neg (by omega),if_pos rfl]
  rw [e2,e3,vf_ml,Nat.mul_add]
  have h2:=vf_split (muO x y ly i) i ly
  rw [h1]at h2
  show _=(vf x i+x i*4294967296 ^ i)*vf y ly
  rw [Nat.add_mul]
  have h3:4294967296 ^ i*(x i*vf y ly)=x i*4294967296 ^ i*vf y ly:=by
   ac_rfl
  omega
def shC (x:Nat→Nat) (s:Nat):Nat→Nat
 | 0=>0
 | i+1=>x i*2 ^ s / 4294967296
def shU (x:Nat→Nat) (s i:Nat):Nat:=x i*2 ^ s % 4294967296+shC x s i
theorem vf_sh (x:Nat→Nat) (s:Nat):∀n,vf (shU x s) n+shC x s n*4294967296 ^ n=vf x n*2 ^ s
 | 0=>by simp [vf,shC]
 | n+1=>by
  have h1:=vf_sh x s n
  show vf (shU x s) n+shU x s n*4294967296 ^ n+(x n*2 ^ s / 4294967296)*4294967296 ^ (n+1)=(vf x n+x n*4294967296 ^ n)*2 ^ s
  have h2:shU x s n*4294967296 ^ n+(x n*2 ^ s / 4294967296)*4294967296 ^ (n+1)=(x n*2 ^ s+shC x s n)*4294967296 ^ n:=by
   rw [pow_succ32]
   exact step_eq _ _ _ _ _ (by unfold shU;omega) rfl
  rw [Nat.add_mul]at h2
  have h3:(vf x n+x n*4294967296 ^ n)*2 ^ s=vf x n*2 ^ s+x n*2 ^ s*4294967296 ^ n:=by
   rw [Nat.add_mul];congr 1;ac_rfl
  omega
theorem shC_lt {x:Nat→Nat} {s:Nat} {n:Nat} (hx:∀i,i<n→x i<4294967296):shC x s n<2 ^ s:=by
 cases n with
 | zero=>exact Nat.two_pow_pos s
 | succ n=>
  show x n*2 ^ s / 4294967296<2 ^ s
  rw [Nat.div_lt_iff_lt_mul (by omega),Nat.mul_comm]
  exact Nat.mul_lt_mul_of_pos_left (hx n (by omega)) (Nat.two_pow_pos s)
theorem shMod (x s:Nat) (hs:s≤32):x*2 ^ s % 4294967296=2 ^ s*(x % 2 ^ (32 - s)):=by
 have e:4294967296=2 ^ s*2 ^ (32 - s):=by rw [←Nat.pow_add,show s+(32 - s)=32 by omega]
 rw [e,Nat.mul_comm x,Nat.mul_mod_mul_left]
theorem shU_lt {x:Nat→Nat} {s n:Nat} (hs:s≤32) (hx:∀i,i<n→x i<4294967296):shU x s n<4294967296:=by
 unfold shU
 have h1:=shC_lt (s:=s) hx
 rw [shMod _ _ hs]
 have h2:x n % 2 ^ (32 - s)<2 ^ (32 - s):=Nat.mod_lt _ (Nat.two_pow_pos _)
 have e:2 ^ s*2 ^ (32 - s)=4294967296:=by rw [←Nat.pow_add,show s+(32 - s)=32 by omega]
 have h3:2 ^ s*(x n % 2 ^ (32 - s)+1)≤2 ^ s*2 ^ (32 - s):=Nat.mul_le_mul_left _ h2
 rw [Nat.mul_add]at h3
 omega
theorem shU_or {x:Nat→Nat} {s n:Nat} (hs:s≤32) (hx:∀i,i<n→x i<4294967296):(x n*2 ^ s % 4294967296) ||| shC x s n=shU x s n:=by
 unfold shU
 rw [shMod _ _ hs]
 exact(Nat.two_pow_add_eq_or_of_lt (shC_lt hx) _).symm
theorem dig_half (n i:Nat):dig (n / 2) i=dig n i / 2+dig n (i+1) % 2*2147483648:=by
 unfold dig
 rw [pow_succ32,←Nat.div_div_eq_div_mul,Nat.div_div_eq_div_mul,Nat.mul_comm 2,←Nat.div_div_eq_div_mul]
 generalize n / 4294967296 ^ i=q
 omega
structure Guess (top u2 v1 v2 qt digit rest:Nat):Prop where
 sum:digit*v1+rest=top
 ge:qt≤digit
theorem guess_start {top v1 v2 u2 qt:Nat} (hq:qt*v1≤top) (hv:0<v1):Guess top u2 v1 v2 qt (top / v1) (top % v1):=
 ⟨by rw [Nat.mul_comm];exact Nat.div_add_mod top v1,(Nat.le_div_iff_mul_le hv).2 hq⟩
theorem guess_step {top u2 v1 v2 qt digit rest:Nat} (h:Guess top u2 v1 v2 qt digit rest) (hqB:qt<4294967296)
  (h2:qt*(v1*4294967296+v2)≤top*4294967296+u2)
  (hbad:4294967296≤digit∨rest*4294967296+u2<digit*v2) (hd:0<digit):Guess top u2 v1 v2 qt (digit - 1) (rest+v1):=by
 obtain ⟨hs,hg⟩:=h
 have hlt:qt<digit:=by
  rcases hbad with hb|hb
  ·omega
  ·rcases Nat.lt_or_ge qt digit with h|h
   ·exact h
   ·exfalso
    obtain rfl:digit=qt:=by omega
    have e:digit*(v1*4294967296+v2)=digit*v1*4294967296+digit*v2:=by rw [Nat.mul_add,Nat.mul_assoc]
    have e2:top*4294967296=digit*v1*4294967296+rest*4294967296:=by rw [←hs,Nat.add_mul]
    omega
 refine⟨?_,by omega⟩
 obtain ⟨k,rfl⟩:∃k,digit=k+1:=⟨digit - 1,by omega⟩
 rw [Nat.add_sub_cancel]
 rw [Nat.add_mul,Nat.one_mul]at hs
 omega
theorem guess_pos {top u2 v1 v2 qt digit rest:Nat} (_h:Guess top u2 v1 v2 qt digit rest) (hbad:4294967296≤digit∨rest*4294967296+u2<digit*v2):0<digit:=by
 rcases hbad with hb|hb
 ·omega
 ·rcases Nat.eq_zero_or_pos digit with h0|h0
  ·subst h0;rw [Nat.zero_mul]at hb;omega
  ·exact h0
theorem guess_fits {top u2 v1 v2 qt digit rest:Nat} (h:Guess top u2 v1 v2 qt digit rest) (htop:top≤v1*4294967296+4294967295)
  (hend:4294967296≤rest∨digit<4294967296):digit<4294967296:=by
 rcases hend with hr|hd
 ·obtain ⟨hs,_⟩:=h
  rcases Nat.lt_or_ge digit 4294967296 with h1|h1
  ·exact h1
  ·exfalso
   have h2:4294967296*v1≤digit*v1:=Nat.mul_le_mul_right _ h1
   omega
 ·exact hd
theorem guess_end {top u2 v1 v2 digit rest lo p U V:Nat} (hs:digit*v1+rest=top) (hd:digit<4294967296) (hv2:v2<4294967296) (hv1:0<v1)
  (hend:4294967296≤rest∨digit*v2≤rest*4294967296+u2)
  (hU:(top*4294967296+u2)*p≤U) (hV:V=(v1*4294967296+v2)*p+lo) (hlo:lo<p):digit≤U / V+1:=by
 have hfit:digit*v2≤rest*4294967296+u2:=by
  rcases hend with h|h
  ·have h1:=mul_word_le hd hv2
   have h2:4294967296*4294967296≤rest*4294967296:=Nat.mul_le_mul_right _ h
   omega
  ·exact h
 have h1:digit*(v1*4294967296+v2)≤top*4294967296+u2:=by
  have e:digit*(v1*4294967296+v2)=digit*v1*4294967296+digit*v2:=by rw [Nat.mul_add,Nat.mul_assoc]
  have e2:top*4294967296=digit*v1*4294967296+rest*4294967296:=by rw [←hs,Nat.add_mul]
  omega
 have h2:digit*(v1*4294967296+v2)*p≤U:=Nat.le_trans (Nat.mul_le_mul_right p h1) hU
 have hVp:4294967296*p≤V:=by
  have h3:1*4294967296*p≤(v1*4294967296+v2)*p:=Nat.mul_le_mul_right p (by omega)
  omega
 have h3:digit*V≤U+V:=by
  rw [hV,Nat.mul_add,←Nat.mul_assoc]
  have h4:digit*lo≤4294967296*p:=Nat.mul_le_mul (by omega) (by omega)
  rw [hV]at hVp
  omega
 have hV0:0<V:=by omega
 have h4:(digit - 1)*V≤U:=by
  rcases Nat.eq_zero_or_pos digit with h0|h0
  ·subst h0;simp
  ·obtain ⟨k,rfl⟩:∃k,digit=k+1:=⟨digit - 1,by omega⟩
   rw [Nat.add_sub_cancel]
   rw [Nat.add_mul,Nat.one_mul]at h3
   omega
 have h5:=(Nat.le_div_iff_mul_le hV0).2 h4
 omega
theorem quot_top {top u2 v1 v2 lo lou p U V:Nat} (hU:U=(top*4294967296+u2)*p+lou) (hlou:lou<p) (hV:V=(v1*4294967296+v2)*p+lo):
  U / V*(v1*4294967296+v2)≤top*4294967296+u2:=by
 have h1:U / V*V≤U:=Nat.div_mul_le_self U V
 have h2:U / V*(v1*4294967296+v2)*p≤U:=by
  refine Nat.le_trans ?_ h1
  rw [Nat.mul_assoc]
  exact Nat.mul_le_mul_left _ (by omega)
 have h3:U / V*(v1*4294967296+v2)*p<(top*4294967296+u2+1)*p:=by rw [Nat.add_mul];omega
 have h4:=Nat.lt_of_mul_lt_mul_right h3
 omega
theorem quot_top1 {top u2 v1 v2 q:Nat} (h:q*(v1*4294967296+v2)≤top*4294967296+u2) (hu:u2<4294967296):q*v1≤top:=by
 rw [Nat.mul_add]at h
 have h1:q*v1*4294967296<(top+1)*4294967296:=by rw [Nat.mul_assoc];omega
 have h2:=Nat.lt_of_mul_lt_mul_right h1
 omega
def lsC (d:Nat) (v:Nat→Nat):Nat→Nat:=mlC d v (fun _=>0)
def lsY (d:Nat) (v:Nat→Nat) (n i:Nat):Nat:=if i<n then mlU d v (fun _=>0) i else lsC d v i
theorem vf_zero (n:Nat):vf (fun _=>0) n=0:=by
 induction n with
 | zero=>rfl
 | succ n ih=>show vf _ n+0*_=0;rw [ih];simp
theorem vf_lsY (d:Nat) (v:Nat→Nat) (n:Nat):vf (lsY d v n) (n+1)=d*vf v n:=by
 show vf (lsY d v n) n+lsY d v n n*_=_
 have e:vf (lsY d v n) n=vf (mlU d v (fun _=>0)) n:=vf_congr fun i hi=>by unfold lsY;rw [if_pos hi]
 rw [e,show lsY d v n n=lsC d v n from by unfold lsY;rw [if_neg (by omega)]]
 have h:=vf_ml d v (fun _=>0) n
 rw [vf_zero]at h
 unfold lsC
 omega
theorem lsC_lt {d:Nat} {v:Nat→Nat} (hd:d<4294967296) {n:Nat} (hv:∀i,i<n→v i<4294967296):lsC d v n<4294967296:=
 mlC_lt hd hv fun _ _=>by omega
theorem lsY_lt {d:Nat} {v:Nat→Nat} (hd:d<4294967296) {n:Nat} (hv:∀i,i<n→v i<4294967296) {i:Nat} (hi:i≤n):lsY d v n i<4294967296:=by
 unfold lsY
 split
 ·exact mlU_lt _ _ _ _
 ·exact lsC_lt hd fun j hj=>hv j (by omega)
def knU (u v:Nat→Nat) (n d i:Nat):Nat:=sbU u (lsY d v n) i
def knL (u v:Nat→Nat) (n d:Nat):Nat:=sbL u (lsY d v n) (n+1)
theorem knuth_sub {u v:Nat→Nat} {n d:Nat} (hu:∀i,i<n+1→u i<4294967296) (hv:∀i,i<n→v i<4294967296) (hd:d<4294967296):
  vf u (n+1)+knL u v n d*4294967296 ^ (n+1)=vf (knU u v n d) (n+1)+d*vf v n:=by
 have h:=vf_sb (u:=u) (v:=lsY d v n) (n+1) hu (fun i hi=>lsY_lt hd hv (by omega))
 rw [vf_lsY]at h
 exact h
theorem knuth_ok {u v:Nat→Nat} {n d:Nat} (hu:∀i,i<n+1→u i<4294967296) (hv:∀i,i<n→v i<4294967296) (hd:d<4294967296)
  (hge:vf u (n+1) / vf v n≤d) (hV:0<vf v n) (h0:knL u v n d=0):
  d=vf u (n+1) / vf v n∧vf (knU u v n d) (n+1)=vf u (n+1) % vf v n:=by
 have h:=knuth_sub hu hv hd
 rw [h0,Nat.zero_mul,Nat.add_zero]at h
 have h1:d≤vf u (n+1) / vf v n:=(Nat.le_div_iff_mul_le hV).2 (by omega)
 have h2:d=vf u (n+1) / vf v n:=by omega
 refine⟨h2,?_⟩
 have h3:=Nat.div_add_mod (vf u (n+1)) (vf v n)
 rw [←h2,Nat.mul_comm]at h3
 omega
theorem knuth_back {u v:Nat→Nat} {n d:Nat} (hu:∀i,i<n+1→u i<4294967296) (hv:∀i,i<n→v i<4294967296) (hd:d<4294967296)
  (hge:vf u (n+1) / vf v n≤d) (hle:d≤vf u (n+1) / vf v n+1) (hV:0<vf v n) (h0:knL u v n d=1):
  d=vf u (n+1) / vf v n+1∧
   vf (fun i=>if i<n then adU (knU u v n d) v i else(knU u v n d n+adC (knU u v n d) v n) % 4294967296) (n+1)=vf u (n+1) % vf v n:=by
 have h:=knuth_sub hu hv hd
 rw [h0,Nat.one_mul]at h
 have hlt:vf (knU u v n d) (n+1)<4294967296 ^ (n+1):=vf_lt fun i _=>sbU_lt _ _ _
 have hmul:vf u (n+1) / vf v n*vf v n≤vf u (n+1):=Nat.div_mul_le_self _ _
 have h1:d=vf u (n+1) / vf v n+1:=by
  rcases Nat.lt_or_ge (vf u (n+1) / vf v n) d with hl|hl
  ·omega
  ·exfalso
   have:d=vf u (n+1) / vf v n:=by omega
   rw [←this]at hmul
   omega
 refine⟨h1,?_⟩
 have h3:=Nat.div_add_mod (vf u (n+1)) (vf v n)
 have h4:d*vf v n=vf u (n+1) / vf v n*vf v n+vf v n:=by rw [h1,Nat.add_mul,Nat.one_mul]
 rw [Nat.mul_comm (vf v n)]at h3
 have hm:vf u (n+1) % vf v n<vf v n:=Nat.mod_lt _ hV
 have hVn:vf v n<4294967296 ^ n:=vf_lt hv
 generalize hu':knU u v n d=u' at *
 have hu'lt:∀i,u' i<4294967296:=fun i=>by rw [←hu'];exact sbU_lt _ _ _
 have had:=vf_ad u' v n
 have hc:=adC_le (n:=n) (fun i _=>hu'lt i) hv
 show vf (fun i=>if i<n then adU u' v i else(u' n+adC u' v n) % 4294967296) n+(if n<n then _ else(u' n+adC u' v n) % 4294967296)*4294967296 ^ n=_
 rw [if_neg (by omega),vf_congr (g:=adU u' v) (fun i hi=>by rw [if_pos hi])]
 have e1:vf u' (n+1)=vf u' n+u' n*4294967296 ^ n:=rfl
 rw [e1,pow_succ32]at h
 rw [e1,pow_succ32]at hlt
 have hun:=hu'lt n
 rcases Nat.lt_or_ge (u' n+adC u' v n) 4294967296 with hs|hs
 ·rw [Nat.mod_eq_of_lt hs,Nat.add_mul]
  exfalso
  have hb:(u' n+adC u' v n)*4294967296 ^ n≤4294967295*4294967296 ^ n:=Nat.mul_le_mul_right _ (by omega)
  rw [Nat.add_mul]at hb
  have hA:vf (adU u' v) n<4294967296 ^ n:=vf_lt fun i _=>adU_lt _ _ _
  omega
 ·have e2:(u' n+adC u' v n) % 4294967296+4294967296=u' n+adC u' v n:=by omega
  have e3:(u' n+adC u' v n) % 4294967296*4294967296 ^ n+4294967296*4294967296 ^ n=u' n*4294967296 ^ n+adC u' v n*4294967296 ^ n:=by
   rw [←Nat.add_mul,e2,Nat.add_mul]
  rw [Nat.mul_comm 4294967296]at e3
  omega
theorem div_dig (X i:Nat):X / 4294967296 ^ i=X / 4294967296 ^ (i+1)*4294967296+dig X i:=by
 unfold dig
 rw [pow_succ32,←Nat.div_div_eq_div_mul]
 omega
theorem quot_dig (X V i:Nat) (hV:0<V):(X / 4294967296 ^ (i+1) % V*4294967296+dig X i) / V=dig (X / V) i:=by
 have h1:=div_dig X i
 have h2:=Nat.div_add_mod (X / 4294967296 ^ (i+1)) V
 have e:X / V / 4294967296 ^ i=X / 4294967296 ^ i / V:=by rw [Nat.div_div_eq_div_mul,Nat.div_div_eq_div_mul,Nat.mul_comm]
 have hr:X / 4294967296 ^ (i+1) % V<V:=Nat.mod_lt _ hV
 have hd:=dig_lt X i
 have e2:dig (X / V) i=X / 4294967296 ^ i / V % 4294967296:=by rw [←e];rfl
 rw [e2,h1]
 generalize dig X i=x at *
 generalize X / 4294967296 ^ (i+1) % V=r at *
 rw [←h2]
 generalize X / 4294967296 ^ (i+1) / V=Q at *
 have h3:(V*Q+r)*4294967296+x=r*4294967296+x+V*(Q*4294967296):=by
  rw [Nat.add_mul,Nat.mul_assoc];omega
 rw [h3,Nat.add_mul_div_left _ _ hV]
 have h4:(r*4294967296+x) / V<4294967296:=by
  rw [Nat.div_lt_iff_lt_mul hV]
  have h5:(r+1)*4294967296≤V*4294967296:=Nat.mul_le_mul_right _ hr
  rw [Nat.mul_comm 4294967296]
  omega
 generalize (r*4294967296+x) / V=g at *
 omega
theorem rest_dig (X V i:Nat):(X / 4294967296 ^ (i+1) % V*4294967296+dig X i) % V=X / 4294967296 ^ i % V:=by
 have h1:=div_dig X i
 have h2:=Nat.div_add_mod (X / 4294967296 ^ (i+1)) V
 generalize X / 4294967296 ^ (i+1) % V=r at *
 generalize X / 4294967296 ^ (i+1) / V=Q at *
 rw [h1,←h2]
 have h3:(V*Q+r)*4294967296+dig X i=r*4294967296+dig X i+V*(Q*4294967296):=by
  rw [Nat.add_mul,Nat.mul_assoc];omega
 rw [h3,Nat.add_mul_mod_self_left]
def luU (X V k i:Nat):Nat:=if i<k then dig X i else dig (X / 4294967296 ^ k % V) (i - k)
theorem luU_lt (X V k i:Nat):luU X V k i<4294967296:=by unfold luU;split<;>exact dig_lt _ _
theorem luU_start {X V m:Nat} (h:X / 4294967296 ^ m<V) (i:Nat):luU X V m i=dig X i:=by
 unfold luU
 split
 ·rfl
 ·rename_i hi
  rw [Nat.mod_eq_of_lt h]
  unfold dig
  rw [Nat.div_div_eq_div_mul,←Nat.pow_add,show m+(i - m)=i by omega]
theorem luU_zero (X V i:Nat):luU X V 0 i=dig (X % V) i:=by
 unfold luU;simp
theorem vf_shift1 (f:Nat→Nat) (n:Nat):vf f (n+1)=f 0+4294967296*vf (fun i=>f (i+1)) n:=by
 rw [Nat.add_comm,vf_split f 1 n]
 simp [vf,Nat.add_comm]
theorem window {X V k n:Nat} (hV:V≤4294967296 ^ n) (hV0:0<V):
  vf (fun i=>luU X V (k+1) (k+i)) (n+1)=X / 4294967296 ^ (k+1) % V*4294967296+dig X k:=by
 rw [vf_shift1]
 have e0:luU X V (k+1) (k+0)=dig X k:=by unfold luU;rw [if_pos (by omega)];rfl
 have e1:vf (fun i=>luU X V (k+1) (k+(i+1))) n=vf (dig (X / 4294967296 ^ (k+1) % V)) n:=vf_congr fun i _=>by
  unfold luU;rw [if_neg (by omega),show k+(i+1) - (k+1)=i by omega]
 have hr:X / 4294967296 ^ (k+1) % V<V:=Nat.mod_lt _ hV0
 rw [e0,e1,vf_dig,Nat.mod_eq_of_lt (by omega)]
 omega
theorem luU_step {X V k n:Nat} {g:Nat→Nat} (hg:∀i,i<n+1→g i<4294967296)
  (hv:vf g (n+1)=(X / 4294967296 ^ (k+1) % V*4294967296+dig X k) % V) (hV:V≤4294967296 ^ n) (hV0:0<V) (j:Nat):
  luU X V k j=if k≤j∧j<k+(n+1)then g (j - k)else luU X V (k+1) j:=by
 rw [rest_dig]at hv
 have hr:X / 4294967296 ^ (k+1) % V<V:=Nat.mod_lt _ hV0
 have hr':X / 4294967296 ^ k % V<V:=Nat.mod_lt _ hV0
 by_cases h1:j<k
 ·rw [if_neg (by omega)];unfold luU;rw [if_pos h1,if_pos (by omega)]
 ·by_cases h2:j<k+(n+1)
  ·rw [if_pos ⟨by omega,h2⟩]
   rw [←dig_vf hg (j - k) (by omega),hv]
   unfold luU;rw [if_neg h1]
  ·rw [if_neg (by omega)]
   unfold luU
   rw [if_neg h1,if_neg (by omega)]
   rw [dig_of_ge,dig_of_ge]
   ·exact(wl_le_iff _ _).2 (Nat.lt_of_lt_of_le hr (Nat.le_trans hV (Nat.pow_le_pow_right (by omega) (by omega))))
   ·exact(wl_le_iff _ _).2 (Nat.lt_of_lt_of_le hr' (Nat.le_trans hV (Nat.pow_le_pow_right (by omega) (by omega))))
theorem top3 (f:Nat→Nat) (n:Nat):vf f (n+3)=((f (n+2)*4294967296+f (n+1))*4294967296+f n)*4294967296 ^ n+vf f n:=by
 show vf f n+f n*4294967296 ^ n+f (n+1)*4294967296 ^ (n+1)+f (n+2)*4294967296 ^ (n+2)=_
 rw [show n+2=n+1+1 from rfl,pow_succ32 (n+1),pow_succ32 n]
 simp only [Nat.add_mul]
 have e1:f (n+1)*(4294967296 ^ n*4294967296)=f (n+1)*4294967296*4294967296 ^ n:=by ac_rfl
 have e2:f (n+1+1)*(4294967296 ^ n*4294967296*4294967296)=f (n+1+1)*4294967296*4294967296*4294967296 ^ n:=by ac_rfl
 omega
theorem top2 (f:Nat→Nat) (n:Nat):vf f (n+2)=(f (n+1)*4294967296+f n)*4294967296 ^ n+vf f n:=by
 show vf f n+f n*4294967296 ^ n+f (n+1)*4294967296 ^ (n+1)=_
 rw [pow_succ32 n]
 simp only [Nat.add_mul]
 have e1:f (n+1)*(4294967296 ^ n*4294967296)=f (n+1)*4294967296*4294967296 ^ n:=by ac_rfl
 omega
theorem top_le {u v:Nat→Nat} {n:Nat} (hv:∀i,i<n+2→v i<4294967296) (hu:∀i,i<n+3→u i<4294967296)
  (h:vf (fun i=>u (i+1)) (n+2)<vf v (n+2)):u (n+2)*4294967296+u (n+1)≤v (n+1)*4294967296+4294967295:=by
 have h1:=vf_top_le (f:=fun i=>u (i+1)) (n+1)
 have h2:vf v (n+2)<(v (n+1)+1)*4294967296 ^ (n+1):=by
  show vf v (n+1)+v (n+1)*4294967296 ^ (n+1)< _
  have:=vf_lt (f:=v) (n:=n+1) (fun i hi=>hv i (by omega))
  rw [Nat.add_mul];omega
 have h3:u (n+2)*4294967296 ^ (n+1)<(v (n+1)+1)*4294967296 ^ (n+1):=by
  have:u (n+2)*4294967296 ^ (n+1)≤vf (fun i=>u (i+1)) (n+2):=h1
  omega
 have h4:=Nat.lt_of_mul_lt_mul_right h3
 have h5:=hu (n+1) (by omega)
 omega
theorem vf_dig_wl (n:Nat):vf (dig n) (wl n)=n:=by rw [vf_dig,Nat.mod_eq_of_lt (lt_pow_wl n)]
theorem dig_ext {a b:Nat} (hw:wl a=wl b) (h:∀i,i<wl a→dig a i=dig b i):a=b:=by
 rw [←vf_dig_wl a,←vf_dig_wl b,←hw]
 exact vf_congr h
theorem bigS_inj {a b:Nat} (ha:18446744073709551616≤a) (hb:18446744073709551616≤b) (h:bigS a=bigS b):a=b:=by
 have sa:=bigS_size ha
 have sb:=bigS_size hb
 have hw:wl a=wl b:=by rw [h]at sa;omega
 refine dig_ext hw fun i hi=>?_
 have hg:∀j,j<4*wl a→byteN a j=byteN b j:=fun j hj=>by
  rw [←bigS_get ha (i:=j) (by omega),←bigS_get hb (i:=j) (by omega)]
  simp only [h]
 rw [←word_of_bytes,←word_of_bytes,hg _ (by omega),hg _ (by omega),hg _ (by omega),hg _ (by omega)]
theorem bigS_nil {n:Nat}:bigS n=⟨#[]⟩↔n<18446744073709551616:=by
 constructor
 ·intro h
  exact(bigS_nil_iff n).1 (by rw [h];rfl)
 ·exact bigS_small
theorem nat_same {a b:Nat}:lowN a=lowN b∧bigS a=bigS b↔a=b:=by
 constructor
 ·rintro ⟨h1,h2⟩
  rcases Nat.lt_or_ge a 18446744073709551616 with ha|ha
  ·have hb:b<18446744073709551616:=bigS_nil.1 (by rw [←h2];exact bigS_small ha)
   rwa [lowN_small ha,lowN_small hb]at h1
  ·rcases Nat.lt_or_ge b 18446744073709551616 with hb|hb
   ·exfalso
    have:=bigS_nil.1 (h2.trans (bigS_small hb))
    omega
   ·exact bigS_inj ha hb h2
 ·rintro rfl;exact⟨rfl,rfl⟩
theorem lt_of_wl {a b:Nat} (h:wl a<wl b):a<b:=by
 rcases Nat.lt_or_ge a b with h1|h1
 ·exact h1
 ·have:=wl_mono h1;omega
theorem lt_of_dig {a b j:Nat} (hj:j<wl a) (hw:wl a=wl b) (he:∀i,j+1≤i→i<wl a→dig a i=dig b i) (hlt:dig a j<dig b j):a<b:=by
 rw [←vf_dig_wl a,←vf_dig_wl b,←hw]
 obtain ⟨m,hm⟩:∃m,wl a=j+1+m:=⟨wl a - (j+1),by omega⟩
 rw [hm,vf_split (dig a) (j+1) m,vf_split (dig b) (j+1) m]
 have e:vf (fun t=>dig a (j+1+t)) m=vf (fun t=>dig b (j+1+t)) m:=vf_congr fun t ht=>he _ (by omega) (by omega)
 rw [e]
 have h1:vf (dig a) (j+1)<vf (dig b) (j+1):=by
  show vf (dig a) j+dig a j*4294967296 ^ j<vf (dig b) j+dig b j*4294967296 ^ j
  have h2:vf (dig a) j<4294967296 ^ j:=vf_lt fun i _=>dig_lt _ _
  have h3:(dig a j+1)*4294967296 ^ j≤dig b j*4294967296 ^ j:=Nat.mul_le_mul_right _ hlt
  rw [Nat.add_mul]at h3
  omega
 omega
def sgnI (n:Int):Int:=if n<0 then -1 else if n=0 then 0 else 1
def cmpN (a b:Nat):Int:=if a<b then -1 else if a=b then 0 else 1
theorem cmpN_lt {a b:Nat} (h:a<b):cmpN a b= -1:=by unfold cmpN;rw [if_pos h]
theorem cmpN_eq (a:Nat):cmpN a a=0:=by unfold cmpN;simp
theorem cmpN_gt {a b:Nat} (h:b<a):cmpN a b=1:=by unfold cmpN;rw [if_neg (by omega),if_neg (by omega)]
theorem cmpN_wl {a b:Nat} (h:wl a≠wl b):sgnI ((wl a:Int) - (wl b:Int))=cmpN a b:=by
 rcases Nat.lt_or_gt_of_ne h with h1|h1
 ·rw [cmpN_lt (lt_of_wl h1)];unfold sgnI;rw [if_pos (by omega)]
 ·rw [cmpN_gt (lt_of_wl h1)];unfold sgnI;rw [if_neg (by omega),if_neg (by omega)]
theorem top_bit {n:Nat} (h:n<4294967296):n / 2147483648=(n.testBit 31).toNat:=by
 rw [Nat.testBit_eq_decide_div_mod_eq]
 have e:(2:Nat) ^ 31=2147483648:=by decide
 rw [e]
 by_cases h1:n / 2147483648 % 2=1
 ·simp [h1];omega
 ·simp [h1];omega
theorem bit31 {n:Nat} (h:n<4294967296):n.testBit 31=decide (2147483648≤n):=by
 have h1:=top_bit h
 cases hb:n.testBit 31 with
 | true=>rw [hb]at h1;symm;rw [decide_eq_true_iff];simp at h1;omega
 | false=>rw [hb]at h1;symm;rw [decide_eq_false_iff_not];simp at h1;omega
def bor32 (x y c:Nat):Nat:=if x<y+c then 1 else 0
theorem bor_bits {x y c d:Nat} (hx:x<4294967296) (hy:y<4294967296) (hc:c≤1) (hd:d=(x+8589934592 - y - c) % 4294967296):
  (((4294967295 ^^^ x) &&& y) ||| ((4294967295 ^^^ (x ^^^ y)) &&& d)) / 2147483648=bor32 x y c:=by
 have e32:(2:Nat) ^ 32=4294967296:=by decide
 have hdl:d<4294967296:=by omega
 have hlt:(((4294967295 ^^^ x) &&& y) ||| ((4294967295 ^^^ (x ^^^ y)) &&& d))<4294967296:=by
  rw [←e32]
  exact Nat.or_lt_two_pow (Nat.and_lt_two_pow _ (by rw [e32];exact hy)) (Nat.and_lt_two_pow _ (by rw [e32];exact hdl))
 rw [top_bit hlt,Nat.testBit_or,Nat.testBit_and,Nat.testBit_and,Nat.testBit_xor,Nat.testBit_xor,Nat.testBit_xor,bit31 hx,bit31 hy,bit31 hdl]
 have eb:Nat.testBit 4294967295 31=true:=by decide
 rw [eb]
 unfold bor32
 by_cases h1:2147483648≤x<;>by_cases h2:2147483648≤y<;>by_cases h3:2147483648≤d<;>simp [h1,h2,h3]<;>omega
end Gus
