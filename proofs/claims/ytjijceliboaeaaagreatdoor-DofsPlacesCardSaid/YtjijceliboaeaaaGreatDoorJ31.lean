/-
  Part 31 of the proof: Moved.
-/
import Derived.Test.YtjijceliboaeaaaGreatDoorJ30
import Derived.Test.YtjijceliboaeaaaGreatDoorJ21
set_option linter.unusedSimpArgs false
set_option linter.unusedVariables false
namespace Go.Proofs.YtjijceliboaeaaaGreatDoor
open Go.RowKit Gus Go.Maps
def kfix (a b c d:Int):K4:=if a*d - b*c=0 then(1,0,0,1)else if a*d - b*c<0 then(a,b,-c,-d)else(a,b,c,d)
def mapK (m0 m1 m2 m3:Int):K4:=kfix (m0.tmod 4) (m1.tmod 4) (m2.tmod 4) (m3.tmod 4)
theorem det_kfix (a b c d:Int):0<det4 (kfix a b c d):=by
 unfold kfix
 split
 ·decide
 ·split
  ·have e:det4 (a,b,-c,-d)= -(a*d - b*c):=by simp only [det4];rw [Int.mul_neg,Int.mul_neg];omega
   omega
  ·have e:det4 (a,b,c,d)=a*d - b*c:=rfl
   omega
def small (n:Int):Prop:= -3≤n∧n≤3
theorem tmod4_small (n:Int):small (n.tmod 4):=by
 have h:=Int.natAbs_tmod n 4
 have h1:n.natAbs % 4<4:=Nat.mod_lt _ (by omega)
 have h2:(4:Int).natAbs=4:=rfl
 rw [h2]at h
 unfold small
 omega
theorem kfix_small {a b c d:Int} (ha:small a) (hb:small b) (hc:small c) (hd:small d):small (kfix a b c d).1∧small (kfix a b c d).2.1∧small (kfix a b c d).2.2.1∧small (kfix a b c d).2.2.2:=by
 unfold small at *
 unfold kfix
 split
 ·decide
 ·split<;>(simp only;omega)
theorem mul_bound {a b:Int} {m n:Nat} (h1:a.natAbs≤m) (h2:b.natAbs≤n): -((m*n:Nat):Int)≤a*b∧a*b≤((m*n:Nat):Int):=by
 have h3:(a*b).natAbs≤m*n:=by rw [Int.natAbs_mul];exact Nat.mul_le_mul h1 h2
 omega
theorem small_mul {a b:Int} (h1:small a) (h2:small b): -9≤a*b∧a*b≤9:=by
 unfold small at h1 h2
 exact mul_bound (m:=3) (n:=3) (by omega) (by omega)
theorem small_mulN {a:Int} {x:Nat} (h1:small a) (h2:x≤60): -180≤a*(x:Int)∧a*(x:Int)≤180:=by
 unfold small at h1
 exact mul_bound (m:=3) (n:=60) (by omega) (by omega)
theorem wrap8_id {n:Int} (h1: -128≤n) (h2:n≤127):IntKind.i8.wrap n=n:=by
 have h3:(2:Int) ^ IntKind.bits .i8=256:=by decide
 have h4:(2:Int) ^ (IntKind.bits .i8 - 1)=128:=by decide
 have h5:IntKind.signed .i8=true:=rfl
 simp only [IntKind.wrap,h3,h4,h5,Bool.true_and,decide_eq_true_eq]
 split<;>omega
theorem info_I2:(Tryz.prog.info? 71).map (·.size)=some 2:=by kernel_rfl
set_option maxRecDepth 20000 in
set_option maxHeartbeats 8000000 in
theorem ms_moved (nx ny den fi:Nat) (m0 m1 m2 m3:Int) (cv:Value) (x y:Nat) (hx:x≤60) (hy:y≤60) (w:World):
  Calls Tryz.prog 36 #[.agg #[.int .u8 (nx:Int),.int .u8 (ny:Int),cv,.int .i8 m0,.int .i8 m1,.int .i8 m2,.int .i8 m3,.int .u8 (den:Int),.int .u8 (fi:Int)],.agg #[.int .i64 (x:Int),.int .i64 (y:Int)]] w
   (Ret w (.agg #[.int .i64 ((mapK m0 m1 m2 m3).1*x+(mapK m0 m1 m2 m3).2.1*y),.int .i64 ((mapK m0 m1 m2 m3).2.2.1*x+(mapK m0 m1 m2 m3).2.2.2*y)])):=by
 unfold mapK
 have s0:=tmod4_small m0
 have s1:=tmod4_small m1
 have s2:=tmod4_small m2
 have s3:=tmod4_small m3
 obtain ⟨k0,e0⟩:∃k,m0.tmod 4=k:=⟨_,rfl⟩
 obtain ⟨k1,e1⟩:∃k,m1.tmod 4=k:=⟨_,rfl⟩
 obtain ⟨k2,e2⟩:∃k,m2.tmod 4=k:=⟨_,rfl⟩
 obtain ⟨k3,e3⟩:∃k,m3.tmod 4=k:=⟨_,rfl⟩
 rw [e0]at s0
 rw [e1]at s1
 rw [e2]at s2
 rw [e3]at s3
 rw [e0,e1,e2,e3]
 have p1:=small_mul s0 s3
 have p2:=small_mul s1 s2
 have hs:∀k,small k→IntKind.i8.wrap k=k∧IntKind.i64.wrap k=k∧IntKind.i64.wrap (-k)= -k:=fun k h=>by unfold small at h;exact⟨wrap8_id (by omega) (by omega),wrap64_id (by omega) (by omega),wrap64_id (by omega) (by omega)⟩
 obtain ⟨a0,b0,_⟩:=hs k0 s0
 obtain ⟨a1,b1,_⟩:=hs k1 s1
 obtain ⟨a2,b2,c2⟩:=hs k2 s2
 obtain ⟨a3,b3,c3⟩:=hs k3 s3
 have w1:IntKind.i64.wrap (k0*k3)=k0*k3:=wrap64_id (by omega) (by omega)
 have w2:IntKind.i64.wrap (k1*k2)=k1*k2:=wrap64_id (by omega) (by omega)
 obtain ⟨d,hd⟩:∃d,k0*k3 - k1*k2=d:=⟨_,rfl⟩
 have w3:IntKind.i64.wrap d=d:=wrap64_id (by omega) (by omega)
 have wx:IntKind.i64.wrap (x:Int)=x:=wrap64_id (by omega) (by omega)
 have wy:IntKind.i64.wrap (y:Int)=y:=wrap64_id (by omega) (by omega)
 have fm_:∀k (u:Nat),small k→u≤60→IntKind.i64.wrap (k*(u:Int))=k*(u:Int):=fun k u h1 h2=>by have:=small_mulN h1 h2;exact wrap64_id (by omega) (by omega)
 have fs_:∀k k',small k→small k'→IntKind.i64.wrap (k*(x:Int)+k'*(y:Int))=k*(x:Int)+k'*(y:Int):=fun k k' h1 h2=>by have:=small_mulN h1 hx;have:=small_mulN h2 hy;exact wrap64_id (by omega) (by omega)
 have n2:small (-k2):=by unfold small at *;omega
 have n3:small (-k3):=by unfold small at *;omega
 have g0:=fm_ k0 x s0 hx
 have g1:=fm_ k1 y s1 hy
 have g2:=fs_ k0 k1 s0 s1
 have g3:=fm_ k2 x s2 hx
 have g4:=fm_ k3 y s3 hy
 have g5:=fs_ k2 k3 s2 s3
 have g6:=fm_ (-k2) x n2 hx
 have g7:=fm_ (-k3) y n3 hy
 have g8:=fs_ (-k2) (-k3) n2 n3
 unfold kfix
 rw [hd]
 clear s0 s1 s2 s3 n2 n3 hs fm_ fs_ p1 p2 hx hy
 by_cases d0:d=0
 ·have q1:(d == 0)=true:=by simp [d0]
  have q2:¬d<0:=by omega
  rw [if_pos d0]
  clear d0
  go_enter Tryz.func36,Tryz.ntmps36
  go_wp2
  refine ret_row (g:=w.heap.size+1+1) (cs:= [.int .i64 (x:Int),.int .i64 (y:Int)]) Tryz.results36 rfl ?_ Tryz.underlying71 rfl info_I2 rfl ⟨rfl,?_⟩
  ·(with_reducible (repeat' (first|(refine VB.new' ?_;exact(by first|omega|(simp;done)|(simp;omega)))|apply VB.put2|apply VB.put3|apply VB.put5|refine VB.drew ?_|refine VB.far ?_ ?_ _|refine VB.alloc ?_ _|omega|(simp;done)|(simp;omega))))
  ·(with_reducible (repeat' (first|exact Gr.refl _ _|refine Gr.drew ?_|refine Gr.setCell ?_ ?_ _|refine Gr.alloc ?_ ?_ _|omega|(simp;done)|(simp;omega))))
 ·have q1:(d == 0)=false:=by simpa using d0
  rw [if_neg d0]
  by_cases d1:d<0
  ·rw [if_pos d1]
   clear d0
   go_enter Tryz.func36,Tryz.ntmps36
   go_wp2
   refine ret_row (g:=w.heap.size+1+1) (cs:= [.int .i64 (k0*(x:Int)+k1*(y:Int)),.int .i64 (-k2*(x:Int)+ -k3*(y:Int))]) Tryz.results36 rfl ?_ Tryz.underlying71 rfl info_I2 rfl ⟨rfl,?_⟩
   ·(with_reducible (repeat' (first|(refine VB.new' ?_;exact(by first|omega|(simp;done)|(simp;omega)))|apply VB.put2|apply VB.put3|apply VB.put5|refine VB.drew ?_|refine VB.far ?_ ?_ _|refine VB.alloc ?_ _|omega|(simp;done)|(simp;omega))))
   ·(with_reducible (repeat' (first|exact Gr.refl _ _|refine Gr.drew ?_|refine Gr.setCell ?_ ?_ _|refine Gr.alloc ?_ ?_ _|omega|(simp;done)|(simp;omega))))
  ·rw [if_neg d1]
   clear d0
   go_enter Tryz.func36,Tryz.ntmps36
   go_wp2
   refine ret_row (g:=w.heap.size+1+1) (cs:= [.int .i64 (k0*(x:Int)+k1*(y:Int)),.int .i64 (k2*(x:Int)+k3*(y:Int))]) Tryz.results36 rfl ?_ Tryz.underlying71 rfl info_I2 rfl ⟨rfl,?_⟩
   ·(with_reducible (repeat' (first|(refine VB.new' ?_;exact(by first|omega|(simp;done)|(simp;omega)))|apply VB.put2|apply VB.put3|apply VB.put5|refine VB.drew ?_|refine VB.far ?_ ?_ _|refine VB.alloc ?_ _|omega|(simp;done)|(simp;omega))))
   ·(with_reducible (repeat' (first|exact Gr.refl _ _|refine Gr.drew ?_|refine Gr.setCell ?_ ?_ _|refine Gr.alloc ?_ ?_ _|omega|(simp;done)|(simp;omega))))
set_option maxRecDepth 20000 in
set_option maxHeartbeats 8000000 in
theorem ms_Has (t:Tri) (q:Nat) (w:World):Calls Tryz.prog 37 #[triV t,.int .i64 (q:Int)] w (Ret w (.bool (has3 t q))):=by
 obtain ⟨x,y,z⟩:=t
 unfold has3
 by_cases h1:x=q
 ·have q1:((x:Int) == (q:Int))=true:=by simp [h1]
  have e:(x == q || y == q || z == q)=true:=by simp [h1]
  simp only [e]
  clear e h1
  go_enter Tryz.func37,Tryz.ntmps37
  go_wp2
  go_ret
  exact⟨rfl,by(with_reducible (repeat' (first|exact Gr.refl _ _|refine Gr.drew ?_|refine Gr.setCell ?_ ?_ _|refine Gr.alloc ?_ ?_ _|omega|(simp;done)|(simp;omega))))⟩
 ·have q1:((x:Int) == (q:Int))=false:=by simp;omega
  by_cases h2:y=q
  ·have q2:((y:Int) == (q:Int))=true:=by simp [h2]
   have e:(x == q || y == q || z == q)=true:=by simp [h2]
   simp only [e]
   clear e h1 h2
   go_enter Tryz.func37,Tryz.ntmps37
   go_wp2
   go_ret
   exact⟨rfl,by(with_reducible (repeat' (first|exact Gr.refl _ _|refine Gr.drew ?_|refine Gr.setCell ?_ ?_ _|refine Gr.alloc ?_ ?_ _|omega|(simp;done)|(simp;omega))))⟩
  ·have q2:((y:Int) == (q:Int))=false:=by simp;omega
   obtain ⟨r,hr⟩:∃r,(x == q || y == q || z == q)=r:=⟨_,rfl⟩
   have q3:((z:Int) == (q:Int))=r:=by
    rw [←hr]
    have e1:(x == q)=false:=by simpa using h1
    have e2:(y == q)=false:=by simpa using h2
    rw [e1,e2,Bool.false_or,Bool.false_or]
    by_cases h3:z=q
    ·subst h3;simp
    ·have e3:(z == q)=false:=by simpa using h3
     rw [e3];simp;omega
   simp only [hr]
   clear hr h1 h2
   go_enter Tryz.func37,Tryz.ntmps37
   go_wp2
   go_ret
   exact⟨rfl,by(with_reducible (repeat' (first|exact Gr.refl _ _|refine Gr.drew ?_|refine Gr.setCell ?_ ?_ _|refine Gr.alloc ?_ ?_ _|omega|(simp;done)|(simp;omega))))⟩
end Go.Proofs.YtjijceliboaeaaaGreatDoor
