/-
  Part 44 of the proof: ShP.
-/
import Derived.Test.YtmbmeggbojfecaaGreatJ41
import Derived.Shelf.Slices.In.SortNone
set_option linter.unusedSimpArgs false
set_option linter.unusedVariables false
namespace Go.Proofs.YtmbmeggbojfecaaGreat
open Go.RowKit Gus Go.Maps
def rowC (p:Nat→Bool):Nat→Nat
 | 0=>0
 | b+1=>rowC p b+if p b then 1 else 0
def pairsC (f:Nat→Nat→Bool) (m:Nat):Nat→Nat
 | 0=>0
 | a+1=>pairsC f m a+rowC (f a) m
theorem rowC_le (p:Nat→Bool):∀b,rowC p b≤b
 | 0=>Nat.le_refl _
 | b+1=>by have:=rowC_le p b;unfold rowC;split<;>omega
theorem pairsC_le (f:Nat→Nat→Bool) (m:Nat):∀a,pairsC f m a≤a*m
 | 0=>by simp [pairsC]
 | a+1=>by have:=pairsC_le f m a;have:=rowC_le (f a) m;unfold pairsC;rw [Nat.add_mul];omega
def crn (t:Tri) (a:Nat):Nat:= [t.1,t.2.1,t.2.2].getD a 0
def cornersN (t u:Tri):Nat:=pairsC (fun a b=>crn t a == crn u b) 3 3
def sharedN (r s:List Nat):Nat:=pairsC (fun a b=>r.getD a 0 == s.getD b 0) s.length r.length
def wantN (o c:Nat):Nat:=if o=2 then [0,1,3,6].getD c 0 else c
theorem edgeNo_inj {es:List Edg} {a b c d:Nat} (h1:hasE es a b) (h2:hasE es c d):edgeNo es a b=edgeNo es c d↔min a b=min c d∧max a b=max c d:=by
 constructor
 ·intro h
  obtain ⟨e,he,e1,e2⟩:=edgeNo_get h1
  obtain ⟨e',he',e3,e4⟩:=edgeNo_get h2
  rw [h,he']at he
  have:=Option.some.inj he
  subst this
  omega
 ·rintro ⟨h3,h4⟩
  unfold edgeNo
  rw [h3,h4]
theorem corners_three {t u:Tri} {n:Nat} (ht:goodT n t) (hu:goodT n u):cornersN t u≤3:=by
 obtain ⟨t0,t1,t2⟩:=t
 obtain ⟨u0,u1,u2⟩:=u
 obtain ⟨_,_,_,a1,a2,a3⟩:=ht
 obtain ⟨_,_,_,b1,b2,b3⟩:=hu
 simp only at a1 a2 a3 b1 b2 b3
 simp only [cornersN,pairsC,rowC,crn,List.getD_cons_zero,List.getD_cons_succ,beq_iff_eq]
 repeat' split
 all_goals omega
theorem shared_one {t u:Tri} {n:Nat} {es:List Edg}:sharedN (rowT 1 n es t) (rowT 1 n es u)=wantN 1 (cornersN t u):=rfl
def blaw (a00 a01 a02 a10 a11 a12 a20 a21 a22:Bool):Bool:=(a00 && a01) || (a00 && a10) || (a00 && a02) || (a00 && a20) || (a01 && a02) || (a10 && a20) || (a10 && a11) || (a01 && a11) || (a10 && a12) || (a01 && a21) || (a11 && a12) || (a11 && a21) || (a20 && a21) || (a02 && a12) || (a20 && a22) || (a02 && a22) || (a21 && a22) || (a12 && a22) || decide (((((((((((((if a00=true then 1 else 0)+(if a01=true then 1 else 0))+(if a02=true then 1 else 0))+(if false=true then 1 else 0))+(if false=true then 1 else 0))+(if false=true then 1 else 0))+((((((if a10=true then 1 else 0)+(if a11=true then 1 else 0))+(if a12=true then 1 else 0))+(if false=true then 1 else 0))+(if false=true then 1 else 0))+(if false=true then 1 else 0)))+((((((if a20=true then 1 else 0)+(if a21=true then 1 else 0))+(if a22=true then 1 else 0))+(if false=true then 1 else 0))+(if false=true then 1 else 0))+(if false=true then 1 else 0)))+((((((if false=true then 1 else 0)+(if false=true then 1 else 0))+(if false=true then 1 else 0))+(if (a11 && a22 || a12 && a21)=true then 1 else 0))+(if (a12 && a20 || a10 && a22)=true then 1 else 0))+(if (a10 && a21 || a11 && a20)=true then 1 else 0)))+((((((if false=true then 1 else 0)+(if false=true then 1 else 0))+(if false=true then 1 else 0))+(if (a21 && a02 || a22 && a01)=true then 1 else 0))+(if (a22 && a00 || a20 && a02)=true then 1 else 0))+(if (a20 && a01 || a21 && a00)=true then 1 else 0)))+((((((if false=true then 1 else 0)+(if false=true then 1 else 0))+(if false=true then 1 else 0))+(if (a01 && a12 || a02 && a11)=true then 1 else 0))+(if (a02 && a10 || a00 && a12)=true then 1 else 0))+(if (a00 && a11 || a01 && a10)=true then 1 else 0))):Nat)= [0,1,3,6].getD (((((if a00=true then 1 else 0)+(if a01=true then 1 else 0))+(if a02=true then 1 else 0))+(((if a10=true then 1 else 0)+(if a11=true then 1 else 0))+(if a12=true then 1 else 0)))+(((if a20=true then 1 else 0)+(if a21=true then 1 else 0))+(if a22=true then 1 else 0))) 0)
set_option maxRecDepth 20000 in
theorem blaw_all:∀a00 a01 a02 a10 a11 a12 a20 a21 a22:Bool,blaw a00 a01 a02 a10 a11 a12 a20 a21 a22=true:=by decide+kernel
theorem bool_law (a00 a01 a02 a10 a11 a12 a20 a21 a22:Bool) (h0:(a00 && a01)=false) (h1:(a00 && a10)=false) (h2:(a00 && a02)=false) (h3:(a00 && a20)=false) (h4:(a01 && a02)=false) (h5:(a10 && a20)=false) (h6:(a10 && a11)=false) (h7:(a01 && a11)=false) (h8:(a10 && a12)=false) (h9:(a01 && a21)=false) (h10:(a11 && a12)=false) (h11:(a11 && a21)=false) (h12:(a20 && a21)=false) (h13:(a02 && a12)=false) (h14:(a20 && a22)=false) (h15:(a02 && a22)=false) (h16:(a21 && a22)=false) (h17:(a12 && a22)=false):((((((((((((if a00=true then 1 else 0)+(if a01=true then 1 else 0))+(if a02=true then 1 else 0))+(if false=true then 1 else 0))+(if false=true then 1 else 0))+(if false=true then 1 else 0))+((((((if a10=true then 1 else 0)+(if a11=true then 1 else 0))+(if a12=true then 1 else 0))+(if false=true then 1 else 0))+(if false=true then 1 else 0))+(if false=true then 1 else 0)))+((((((if a20=true then 1 else 0)+(if a21=true then 1 else 0))+(if a22=true then 1 else 0))+(if false=true then 1 else 0))+(if false=true then 1 else 0))+(if false=true then 1 else 0)))+((((((if false=true then 1 else 0)+(if false=true then 1 else 0))+(if false=true then 1 else 0))+(if (a11 && a22 || a12 && a21)=true then 1 else 0))+(if (a12 && a20 || a10 && a22)=true then 1 else 0))+(if (a10 && a21 || a11 && a20)=true then 1 else 0)))+((((((if false=true then 1 else 0)+(if false=true then 1 else 0))+(if false=true then 1 else 0))+(if (a21 && a02 || a22 && a01)=true then 1 else 0))+(if (a22 && a00 || a20 && a02)=true then 1 else 0))+(if (a20 && a01 || a21 && a00)=true then 1 else 0)))+((((((if false=true then 1 else 0)+(if false=true then 1 else 0))+(if false=true then 1 else 0))+(if (a01 && a12 || a02 && a11)=true then 1 else 0))+(if (a02 && a10 || a00 && a12)=true then 1 else 0))+(if (a00 && a11 || a01 && a10)=true then 1 else 0))):Nat)= [0,1,3,6].getD (((((if a00=true then 1 else 0)+(if a01=true then 1 else 0))+(if a02=true then 1 else 0))+(((if a10=true then 1 else 0)+(if a11=true then 1 else 0))+(if a12=true then 1 else 0)))+(((if a20=true then 1 else 0)+(if a21=true then 1 else 0))+(if a22=true then 1 else 0))) 0:=by
 have h:=blaw_all a00 a01 a02 a10 a11 a12 a20 a21 a22
 unfold blaw at h
 rw [h0,h1,h2,h3,h4,h5,h6,h7,h8,h9,h10,h11,h12,h13,h14,h15,h16,h17]at h
 simpa only [Bool.false_or,decide_eq_true_eq] using h
theorem mm_iff {a b c d:Nat}:min a b=min c d∧max a b=max c d↔a=c∧b=d∨a=d∧b=c:=by omega
theorem beq_c {x y z:Nat} (h:y≠z):(x == y && x == z)=false:=by
 simp only [Bool.and_eq_false_iff,beq_eq_false_iff_ne];omega
theorem beq_d {x y z:Nat} (h:x≠y):(x == z && y == z)=false:=by
 simp only [Bool.and_eq_false_iff,beq_eq_false_iff_ne];omega
set_option maxHeartbeats 1000000 in
theorem shared_two {t u:Tri} {n:Nat} {es:List Edg} (ht:goodT n t) (hu:goodT n u) (h1:hasE es t.2.1 t.2.2) (h2:hasE es t.2.2 t.1) (h3:hasE es t.1 t.2.1) (h4:hasE es u.2.1 u.2.2) (h5:hasE es u.2.2 u.1) (h6:hasE es u.1 u.2.1):
  sharedN (rowT 2 n es t) (rowT 2 n es u)=wantN 2 (cornersN t u):=by
 obtain ⟨t0,t1,t2⟩:=t
 obtain ⟨u0,u1,u2⟩:=u
 obtain ⟨n0,n1,n2,a1,a2,a3⟩:=ht
 obtain ⟨m0,m1,m2,b1,b2,b3⟩:=hu
 simp only at a1 a2 a3 b1 b2 b3 n0 n1 n2 m0 m1 m2 h1 h2 h3 h4 h5 h6
 have e11:=edgeNo_inj h1 h4;have e12:=edgeNo_inj h1 h5;have e13:=edgeNo_inj h1 h6
 have e21:=edgeNo_inj h2 h4;have e22:=edgeNo_inj h2 h5;have e23:=edgeNo_inj h2 h6
 have e31:=edgeNo_inj h3 h4;have e32:=edgeNo_inj h3 h5;have e33:=edgeNo_inj h3 h6
 show sharedN [t0,t1,t2,n+edgeNo es t1 t2,n+edgeNo es t2 t0,n+edgeNo es t0 t1] [u0,u1,u2,n+edgeNo es u1 u2,n+edgeNo es u2 u0,n+edgeNo es u0 u1]= [0,1,3,6].getD (cornersN (t0,t1,t2) (u0,u1,u2)) 0
 generalize edgeNo es t1 t2=p0 at *
 generalize edgeNo es t2 t0=p1 at *
 generalize edgeNo es t0 t1=p2 at *
 generalize edgeNo es u1 u2=q0 at *
 generalize edgeNo es u2 u0=q1 at *
 generalize edgeNo es u0 u1=q2 at *
 have f00:(p0 == q0)=(t1 == u1 && t2 == u2 || t1 == u2 && t2 == u1):=by rw [Bool.eq_iff_iff];simp only [beq_iff_eq,Bool.or_eq_true,Bool.and_eq_true,e11,mm_iff]
 have f01:(p0 == q1)=(t1 == u2 && t2 == u0 || t1 == u0 && t2 == u2):=by rw [Bool.eq_iff_iff];simp only [beq_iff_eq,Bool.or_eq_true,Bool.and_eq_true,e12,mm_iff]
 have f02:(p0 == q2)=(t1 == u0 && t2 == u1 || t1 == u1 && t2 == u0):=by rw [Bool.eq_iff_iff];simp only [beq_iff_eq,Bool.or_eq_true,Bool.and_eq_true,e13,mm_iff]
 have f10:(p1 == q0)=(t2 == u1 && t0 == u2 || t2 == u2 && t0 == u1):=by rw [Bool.eq_iff_iff];simp only [beq_iff_eq,Bool.or_eq_true,Bool.and_eq_true,e21,mm_iff]
 have f11:(p1 == q1)=(t2 == u2 && t0 == u0 || t2 == u0 && t0 == u2):=by rw [Bool.eq_iff_iff];simp only [beq_iff_eq,Bool.or_eq_true,Bool.and_eq_true,e22,mm_iff]
 have f12:(p1 == q2)=(t2 == u0 && t0 == u1 || t2 == u1 && t0 == u0):=by rw [Bool.eq_iff_iff];simp only [beq_iff_eq,Bool.or_eq_true,Bool.and_eq_true,e23,mm_iff]
 have f20:(p2 == q0)=(t0 == u1 && t1 == u2 || t0 == u2 && t1 == u1):=by rw [Bool.eq_iff_iff];simp only [beq_iff_eq,Bool.or_eq_true,Bool.and_eq_true,e31,mm_iff]
 have f21:(p2 == q1)=(t0 == u2 && t1 == u0 || t0 == u0 && t1 == u2):=by rw [Bool.eq_iff_iff];simp only [beq_iff_eq,Bool.or_eq_true,Bool.and_eq_true,e32,mm_iff]
 have f22:(p2 == q2)=(t0 == u0 && t1 == u1 || t0 == u1 && t1 == u0):=by rw [Bool.eq_iff_iff];simp only [beq_iff_eq,Bool.or_eq_true,Bool.and_eq_true,e33,mm_iff]
 have hb:∀p q:Nat,(n+p == n+q)=(p == q):=fun p q=>by rw [Bool.eq_iff_iff];simp only [beq_iff_eq];omega
 have hx:∀a q:Nat,a<n→(a == n+q)=false:=fun a q h=>by simp;omega
 have hy:∀a q:Nat,a<n→(n+q == a)=false:=fun a q h=>by simp;omega
 simp only [sharedN,cornersN,crn,pairsC,rowC,List.length_cons,List.length_nil,Nat.zero_add,Nat.reduceAdd,List.getD_cons_zero,List.getD_cons_succ,hb,f00,f01,f02,f10,f11,f12,f20,f21,f22,hx t0 _ n0,hx t1 _ n1,hx t2 _ n2,hy u0 _ m0,hy u1 _ m1,hy u2 _ m2]
 exact bool_law _ _ _ _ _ _ _ _ _ (beq_c b1) (beq_d a1) (beq_c b3.symm) (beq_d a3.symm) (beq_c b2) (beq_d a2) (beq_c b1) (beq_d a1) (beq_c b3.symm) (beq_d a3.symm) (beq_c b2) (beq_d a2) (beq_c b1) (beq_d a1) (beq_c b3.symm) (beq_d a3.symm) (beq_c b2) (beq_d a2)
end Go.Proofs.YtmbmeggbojfecaaGreat
