/-
  Part 8 of the proof: Int.
-/
import Derived.Test.YtfgmdhjmgdccdaaGreatJ7
set_option linter.unusedSimpArgs false
set_option linter.unusedVariables false
set_option maxHeartbeats 8000000
namespace Go.Proofs.YtfgmdhjmgdccdaaGreat
open Go.RowKit Gus
def sz (z:Int):Nat:=z.natAbs
def ng (z:Int):Bool:=decide (z<0)
abbrev nA (n:Int):Value:= .int .u64 (lowN (sz n))
abbrev nB (n:Int):Value:= .string (bigS (sz n))
abbrev nC (n:Int):Value:= .bool (ng n)
abbrev nD (m:Nat):Value:= .int .u64 (lowN m)
abbrev nE (m:Nat):Value:= .string (bigS m)
abbrev intC (z:Int):List Value:= [.int .u64 (lowN (sz z)),.string (bigS (sz z)),.bool (ng z)]
abbrev intV (z:Int):Value:= .agg #[.int .u64 (lowN (sz z)),.string (bigS (sz z)),.bool (ng z)]
def sgd (s:Bool) (n:Nat):Int:=if s then -(n:Int)else n
theorem sgd_abs (s:Bool) (n:Nat):sz (sgd s n)=n:=by unfold sgd sz;split<;>omega
theorem sgd_neg (s:Bool) (n:Nat):ng (sgd s n)=(s && !decide (n=0)):=by
 unfold sgd ng
 cases s
 ·simp
 ·by_cases h:n=0
  ·simp [h]
  ·simp [h];try omega
theorem sgd_self (z:Int):sgd (ng z) (sz z)=z:=by unfold sgd ng sz;by_cases h:z<0<;>simp [h]<;>omega
theorem bytes_nil (b:ByteArray):b.toList= []↔b=⟨#[]⟩:=by
 rw [←bytes_toList_inj (b:=⟨#[]⟩),show(⟨#[]⟩:ByteArray).toList= [] by rw [ByteArray.toList_eq]]
theorem size_eq0 (a:Nat) (W:World):(binOp .eql 55 (.agg #[.int .u64 (lowN a),.string (bigS a)]) (.agg #[.int .u64 0,.string ⟨#[]⟩])).run Tryz.prog W= .ok (.bool (decide (a=0))) W:=by
 have h:=nat_same (a:=a) (b:=0)
 have e1:lowN 0=0:=lowN_small (by omega)
 have e2:bigS 0=⟨#[]⟩:=bigS_small (by omega)
 rw [e1,e2]at h
 go_simp
 by_cases h1:lowN a=0
 ·by_cases h2:bigS a=⟨#[]⟩
  ·rw [if_pos (by rw [h1]),if_pos (by rw [bytes_nil];exact h2),decide_eq_true (h.1 ⟨h1,h2⟩)]
  ·rw [if_pos (by rw [h1]),if_neg (by rw [bytes_nil];exact h2),decide_eq_false (fun e=>h2 (h.2 e).2)]
 ·rw [if_neg (by omega),decide_eq_false (fun e=>h1 (h.2 e).1)]
set_option maxRecDepth 20000 in
set_option maxHeartbeats 400000 in
theorem size_zero (n:Nat) (w:World):Calls Tryz.prog 148 #[natV n] w (Ret w (.bool (decide (n=0)))):=by
 have hq:=size_eq0 n
 unfold natV
 go_enter Tryz.func148,Tryz.ntmps148
 go_wp2
 go_ret
 exact⟨rfl,(Gr.refl _ _).alloc (Nat.le_refl _) _⟩
theorem info_Int:(Tryz.prog.info? 57).map (·.size)=some 3:=by kernel_rfl
set_option maxRecDepth 20000 in
set_option maxHeartbeats 400000 in
theorem ints_From (s:Bool) (n:Nat) (w:World):Calls Tryz.prog 105 #[.bool s,natV n] w (Ret w (intV (sgd s n))):=by
 unfold intV
 rw [sgd_abs,sgd_neg]
 unfold natV
 cases s
 all_goals
  go_enter Tryz.func105,Tryz.ntmps105
  go_wp2_with fail
 ·go_region
  go_wp2
  refine ret_row (g:=w.heap.size+1) (cs:= [.int .u64 (lowN n),.string (bigS n),.bool false]) Tryz.results105 rfl ?_ Tryz.underlying57 rfl info_Int rfl ⟨rfl,?_⟩
  ·exact vbb
  ·exact gzz
 ·go_region_held3 (fun w'=>w'.cell? ⟨w.heap.size+1+1,0,none⟩=some (.int .u64 (lowN n))∧w'.cell? ⟨w.heap.size+1+1,1,none⟩=some (.string (bigS n)))
   (first|(simp [go_sem, *];done))
   ((go_at_call 148;refine(size_zero n _).mono ?_;rintro e w1 ⟨rfl,hg1⟩;(try (with_reducible replace hg1:=Gr.of_drew hg1));have hsz1:=hg1.size;(try simp at hsz1);have hz1_0:w.heap.size<w1.heap.size:=(by omega);have hz1_1:w.heap.size+1<w1.heap.size:=(by omega);have hz1_2:w.heap.size+1+1<w1.heap.size:=(by omega);obtain ⟨hc1,hf1⟩:=hg1.cells;have HG1:=Lh hg1;clear hg1))
  go_wp2
  refine ret_row (g:=w.heap.size+1) Tryz.results105 rfl (VB.set (cs:= [.int .u64 0,.string ⟨#[]⟩,.bool false]) ?_ [.int .u64 (lowN n),.string (bigS n),.bool (!decide (n=0))] rfl) Tryz.underlying57 rfl info_Int rfl ⟨by simp,?_⟩
  ·exact vbc HG1 vbb
  ·exact gcc HG1 gzz
theorem info_Nat:(Tryz.prog.info? 53).map (·.size)=some 2:=by kernel_rfl
theorem ints_From' {s:Bool} {n:Nat} {z:Int} (h:sgd s n=z) (w:World):Calls Tryz.prog 105 #[.bool s,natV n] w (Ret w (intV z)):=h ▸ ints_From s n w
set_option maxRecDepth 20000 in
set_option maxHeartbeats 400000 in
theorem ints_Abs (z:Int) (w:World):Calls Tryz.prog 107 #[intV z] w (Ret w (natV (sz z))):=by
 unfold intV natV
 go_enter Tryz.func107,Tryz.ntmps107
 go_wp2
 refine ret_row (g:=w.heap.size+1) (cs:= [.int .u64 (lowN (sz z)),.string (bigS (sz z))]) Tryz.results107 rfl ?_ Tryz.underlying53 rfl info_Nat rfl ⟨rfl,?_⟩
 ·exact vbb
 ·exact gzz
theorem sgn_sz (z:Int):sgnI z=if sz z=0 then 0 else if ng z=true then -1 else 1:=by
 unfold sgnI sz ng;simp only [decide_eq_true_eq];split<;>split<;>(try split)<;>omega
set_option maxRecDepth 20000 in
set_option maxHeartbeats 400000 in
theorem ints_Sign (z:Int) (w:World):Calls Tryz.prog 121 #[intV z] w (Ret w (.int .i64 (sgnI z))):=by
 unfold intV
 go_enter Tryz.func121,Tryz.ntmps121
 go_wp2_with fail
 (refine rtu (size_zero (sz z) _) fun w1 hsz1 hl1 hc1 hf1 HG1=>?_;(try simp at hsz1))
 by_cases h0:sz z=0
 ·rw [decide_eq_true h0]
  go_wp2
  go_ret
  exact⟨ret_int (by rw [sgn_sz,if_pos h0]),by exact gcc HG1 gzz⟩
 ·rw [decide_eq_false h0]
  have hs':ng z=ng z:=rfl
  generalize hs:ng z=s at *
  have HS:=Lh hs
  clear hs hs'
  cases s
  ·go_wp2
   go_ret
   exact⟨ret_int (by rw [sgn_sz,if_neg h0,HS.out];rfl),by exact gcc HG1 gzz⟩
  ·go_wp2
   go_ret
   exact⟨ret_int (by rw [sgn_sz,if_neg h0,HS.out];rfl),by exact gcc HG1 gzz⟩
theorem sgd_not (z:Int):sgd (!ng z) (sz z)= -z:=by
 unfold sgd ng sz
 by_cases h:z<0
 ·simp [h];omega
 ·simp [h];omega
set_option maxRecDepth 20000 in
set_option maxHeartbeats 400000 in
theorem ints_Neg (z:Int) (w:World):Calls Tryz.prog 115 #[intV z] w (Ret w (intV (-z))):=by
 have hF:=Lh (ints_From' (sgd_not z))
 unfold intV
 go_enter Tryz.func115,Tryz.ntmps115
 go_wp2_with fail
 (refine rtu (hF.out _) fun w1 hsz1 hl1 hc1 hf1 HG1=>?_;(try simp at hsz1))
 go_wp2
 refine ret_row (g:=w.heap.size+1) Tryz.results115 rfl (VB.set (cs:= [.int .u64 0,.string ⟨#[]⟩,.bool false]) ?_ (intC (-z)) rfl) Tryz.underlying57 rfl info_Int rfl ⟨rfl,?_⟩
 ·exact vbc HG1 vbb
 ·exact gcc HG1 gzz
set_option maxRecDepth 20000 in
set_option maxHeartbeats 400000 in
theorem ints_Of (n:Int) (h1: -9223372036854775808≤n) (h2:n≤9223372036854775807) (w:World):Calls Tryz.prog 68 #[.int .i64 n] w (Ret w (intV n)):=by
 have hO:=Lh (nats_Of (n:=sz n) (by unfold sz;omega))
 have hF:=Lh (ints_From' (sgd_self n))
 by_cases h:n<0
 ·have hs:ng n=true:=by unfold ng;simp [h]
  have hw:IntKind.u64.wrap (-IntKind.u64.wrap n)=(sz n:Int):=by rw [IntKind.wrap_u64,IntKind.wrap_u64];unfold sz;omega
  have HW:=Lh hw
  rw [hs]at hF
  clear hw hs
  go_enter Tryz.func68,Tryz.ntmps68
  go_wp2_with fail
  rw [HW.out]
  (refine rtu (hO.out _) fun w1 hsz1 hl1 hc1 hf1 HG1=>?_;(try simp at hsz1))
  go_wp2_with fail
  (refine rtu (hF.out _) fun w2 hsz2 hl2 hc2 hf2 HG2=>?_;(try simp at hsz2))
  go_wp2
  refine ret_row (g:=w.heap.size) Tryz.results68 rfl (VB.set (cs:= [.int .u64 0,.string ⟨#[]⟩,.bool false]) ?_ (intC n) rfl) Tryz.underlying57 rfl info_Int rfl ⟨rfl,?_⟩
  ·exact vbc HG2 (vbc HG1 vbb)
  ·exact gcc HG2 (gcc HG1 gzz)
 ·have hs:ng n=false:=by unfold ng;simp;omega
  have hw:n=(sz n:Int):=by unfold sz;omega
  rw [hs]at hF
  obtain ⟨m,hm⟩:∃m,m=sz n:=⟨_,rfl⟩
  rw [←hm]at hO hF hw
  have HW:=Lh hw
  clear hw hs hm
  have h0:0≤n:=by omega
  clear h
  go_enter Tryz.func68,Tryz.ntmps68
  go_wp2_with fail
  rw [HW.out]
  (refine rtu (hO.out _) fun w1 hsz1 hl1 hc1 hf1 HG1=>?_;(try simp at hsz1))
  go_wp2_with fail
  (refine rtu (hF.out _) fun w2 hsz2 hl2 hc2 hf2 HG2=>?_;(try simp at hsz2))
  go_wp2
  refine ret_row (g:=w.heap.size) Tryz.results68 rfl (VB.set (cs:= [.int .u64 0,.string ⟨#[]⟩,.bool false]) ?_ (intC n) rfl) Tryz.underlying57 rfl info_Int rfl ⟨rfl,?_⟩
  ·exact vbc HG2 (vbc HG1 vbb)
  ·exact gcc HG2 (gcc HG1 gzz)
set_option maxRecDepth 20000 in
set_option maxHeartbeats 400000 in
theorem told_plus {a b c:Int} (hf:∀w,Calls Tryz.prog 126 #[intV a,intV b] w (Ret w (intV c))) (w:World):Calls Tryz.prog 116 #[.func (.func 126) #[] #[],intV a,intV b] w (Ret w (intV c)):=by
 have HF:=Lh hf
 clear hf
 unfold intV
 go_enter Tryz.func116,Tryz.ntmps116
 go_wp2_with fail
 (refine rtu (HF.out _) fun w1 hsz1 hl1 hc1 hf1 HG1=>?_;(try simp at hsz1))
 go_wp2
 refine ret_row (g:=w.heap.size+1+1) Tryz.results116 rfl (VB.set (cs:= [.int .u64 0,.string ⟨#[]⟩,.bool false]) ?_ (intC c) rfl) Tryz.underlying57 rfl info_Int rfl ⟨rfl,?_⟩
 ·exact vbc HG1 vbb
 ·exact gcc HG1 gzz
set_option maxRecDepth 20000 in
set_option maxHeartbeats 400000 in
theorem told_times {a b c:Int} (hf:∀w,Calls Tryz.prog 117 #[intV a,intV b] w (Ret w (intV c))) (w:World):Calls Tryz.prog 116 #[.func (.func 117) #[] #[],intV a,intV b] w (Ret w (intV c)):=by
 have HF:=Lh hf
 clear hf
 unfold intV
 go_enter Tryz.func116,Tryz.ntmps116
 go_wp2_with fail
 (refine rtu (HF.out _) fun w1 hsz1 hl1 hc1 hf1 HG1=>?_;(try simp at hsz1))
 go_wp2
 refine ret_row (g:=w.heap.size+1+1) Tryz.results116 rfl (VB.set (cs:= [.int .u64 0,.string ⟨#[]⟩,.bool false]) ?_ (intC c) rfl) Tryz.underlying57 rfl info_Int rfl ⟨rfl,?_⟩
 ·exact vbc HG1 vbb
 ·exact gcc HG1 gzz
theorem sgd_mul (a b:Int):sgd (ng a != ng b) (sz a*sz b)=a*b:=by
 have h:∀s t n m,sgd (s != t) (n*m)=sgd s n*sgd t m:=by
  intro s t n m;cases s<;>cases t<;>simp [sgd,Int.neg_mul,Int.mul_neg]
 rw [h,sgd_self,sgd_self]
set_option maxRecDepth 20000 in
set_option maxHeartbeats 400000 in
theorem ints_times (a b:Int) (w:World) (ha:wl (sz a)≤549755813888) (hb:wl (sz b)≤549755813888):Calls Tryz.prog 117 #[intV a,intV b] w (Ret w (intV (a*b))):=by
 have hM:=Lh (fun w=>nats_Mul (sz a) (sz b) w ha hb)
 have hF:=Lh (ints_From' (sgd_mul a b))
 clear ha hb
 unfold intV
 go_enter Tryz.func117,Tryz.ntmps117
 go_wp2_with fail
 go_region_held3 (fun w'=>w'.cell? ⟨w.heap.size,0,none⟩=some (.int .u64 (lowN (sz a)))∧w'.cell? ⟨w.heap.size,1,none⟩=some (.string (bigS (sz a)))∧w'.cell? ⟨w.heap.size,2,none⟩=some (.bool (ng a))∧w'.cell? ⟨w.heap.size+1,0,none⟩=some (.int .u64 (lowN (sz b)))∧w'.cell? ⟨w.heap.size+1,1,none⟩=some (.string (bigS (sz b)))∧w'.cell? ⟨w.heap.size+1,2,none⟩=some (.bool (ng b)))
  (first|(simp [go_sem, *];done))
  (first|((go_at_call 81;refine(hM.out _).mono ?_;rintro e w1 ⟨rfl,hg1⟩;(try (with_reducible replace hg1:=Gr.of_drew hg1));have hsz1:=hg1.size;(try simp at hsz1);have hz1_0:w.heap.size<w1.heap.size:=(by omega);have hz1_1:w.heap.size+1<w1.heap.size:=(by omega);have hz1_2:w.heap.size+1+1<w1.heap.size:=(by omega);obtain ⟨hc1,hf1⟩:=hg1.cells;have HG1:=Lh hg1;clear hg1))|((go_at_call 105;refine(hF.out _).mono ?_;rintro e w2 ⟨rfl,hg2⟩;(try (with_reducible replace hg2:=Gr.of_drew hg2));have hsz2:=hg2.size;(try simp at hsz2);have hz2_0:w.heap.size<w2.heap.size:=(by omega);have hz2_1:w.heap.size+1<w2.heap.size:=(by omega);have hz2_2:w.heap.size+1+1<w2.heap.size:=(by omega);obtain ⟨hc2,hf2⟩:=hg2.cells;have HG2:=Lh hg2;clear hg2)))
 go_wp2
 refine ret_row (g:=w.heap.size+1+1) Tryz.results117 rfl (VB.set (cs:= [.int .u64 0,.string ⟨#[]⟩,.bool false]) ?_ (intC (a*b)) rfl) Tryz.underlying57 rfl info_Int rfl ⟨rfl,?_⟩
 ·(with_reducible (repeat' (first|(refine VB.new' ?_;exact(by first|omega|(simp;done)|(simp;omega)))|apply VB.put2|apply VB.put3|apply VB.put5|refine VB.drew ?_|refine VB.far ?_ ?_ _|refine VB.alloc ?_ _|refine VB.gr ?_ HG1.out ?_|refine VB.gr ?_ HG2.out ?_|omega|(simp;done)|(simp;omega))))
 ·(with_reducible (repeat' (first|exact Gr.refl _ _|refine Gr.drew ?_|refine Gr.setCell ?_ ?_ _|refine Gr.alloc ?_ ?_ _|refine Gr.trans ?_ (Gr.mono HG1.out ?_)|refine Gr.trans ?_ (Gr.mono HG2.out ?_)|omega|(simp;done)|(simp;omega))))
theorem sgd_add {a b:Int} (h:ng a=ng b):sgd (ng b) (sz a+sz b)=a+b:=by
 have hh:∀s n m,sgd s (n+m)=sgd s n+sgd s m:=by intro s n m;cases s<;>simp [sgd]<;>omega
 rw [hh,←h,sgd_self,h,sgd_self]
theorem sgd_sub1 {a b:Int} (h:ng a≠ng b) (hl:sz b≤sz a):sgd (ng a) (sz a - sz b)=a+b:=by
 unfold sgd ng sz at *;simp only [decide_eq_true_eq,ne_eq,decide_eq_decide]at *;split<;>omega
theorem sgd_sub2 {a b:Int} (h:ng a≠ng b) (hl:sz a≤sz b):sgd (ng b) (sz b - sz a)=a+b:=by
 unfold sgd ng sz at *;simp only [decide_eq_true_eq,ne_eq,decide_eq_decide]at *;split<;>omega
set_option maxRecDepth 20000 in
set_option maxHeartbeats 400000 in
theorem plus_same (a b:Int) (w:World) (ha:wl (sz a)≤549755813888) (hb:wl (sz b)≤549755813888) (h:ng a=ng b):Calls Tryz.prog 126 #[intV a,intV b] w (Ret w (intV (a+b))):=by
 have hM:=Lh (fun w=>nats_Add (sz a) (sz b) w ha hb)
 have hF:=Lh (ints_From' (sgd_add h))
 clear ha hb
 unfold intV
 rw [h]
 clear h
 generalize ng b=q at *
 go_enter Tryz.func126,Tryz.ntmps126
 go_wp2_with fail
 go_region_held3 (fun w'=>w'.cell? ⟨w.heap.size,0,none⟩=some (.int .u64 (lowN (sz a)))∧w'.cell? ⟨w.heap.size,1,none⟩=some (.string (bigS (sz a)))∧w'.cell? ⟨w.heap.size,2,none⟩=some (.bool q)∧w'.cell? ⟨w.heap.size+1,0,none⟩=some (.int .u64 (lowN (sz b)))∧w'.cell? ⟨w.heap.size+1,1,none⟩=some (.string (bigS (sz b)))∧w'.cell? ⟨w.heap.size+1,2,none⟩=some (.bool q))
  (first|(simp [go_sem, *];done))
  (first|((go_at_call 125;refine(hM.out _).mono ?_;rintro e w1 ⟨rfl,hg1⟩;(try (with_reducible replace hg1:=Gr.of_drew hg1));have hsz1:=hg1.size;(try simp at hsz1);have hz1_0:w.heap.size<w1.heap.size:=(by omega);have hz1_1:w.heap.size+1<w1.heap.size:=(by omega);have hz1_2:w.heap.size+1+1<w1.heap.size:=(by omega);obtain ⟨hc1,hf1⟩:=hg1.cells;have HG1:=Lh hg1;clear hg1))|((go_at_call 105;refine(hF.out _).mono ?_;rintro e w2 ⟨rfl,hg2⟩;(try (with_reducible replace hg2:=Gr.of_drew hg2));have hsz2:=hg2.size;(try simp at hsz2);have hz2_0:w.heap.size<w2.heap.size:=(by omega);have hz2_1:w.heap.size+1<w2.heap.size:=(by omega);have hz2_2:w.heap.size+1+1<w2.heap.size:=(by omega);obtain ⟨hc2,hf2⟩:=hg2.cells;have HG2:=Lh hg2;clear hg2)))
 go_wp2
 refine ret_row (g:=w.heap.size+1+1) Tryz.results126 rfl (VB.set (cs:= [.int .u64 0,.string ⟨#[]⟩,.bool false]) ?_ (intC (a+b)) rfl) Tryz.underlying57 rfl info_Int rfl ⟨rfl,?_⟩
 ·(with_reducible (repeat' (first|(refine VB.new' ?_;exact(by first|omega|(simp;done)|(simp;omega)))|apply VB.put2|apply VB.put3|apply VB.put5|refine VB.drew ?_|refine VB.far ?_ ?_ _|refine VB.alloc ?_ _|refine VB.gr ?_ HG1.out ?_|refine VB.gr ?_ HG2.out ?_|omega|(simp;done)|(simp;omega))))
 ·(with_reducible (repeat' (first|exact Gr.refl _ _|refine Gr.drew ?_|refine Gr.setCell ?_ ?_ _|refine Gr.alloc ?_ ?_ _|refine Gr.trans ?_ (Gr.mono HG1.out ?_)|refine Gr.trans ?_ (Gr.mono HG2.out ?_)|omega|(simp;done)|(simp;omega))))
set_option maxRecDepth 20000 in
set_option maxHeartbeats 400000 in
theorem plus_ge (a b:Int) (w:World) (ha:wl (sz a)≤549755813888) (h:ng a≠ng b) (hl:sz b≤sz a):Calls Tryz.prog 126 #[intV a,intV b] w (Ret w (intV (a+b))):=by
 have hM:=Lh (fun w=>nats_Sub w ha hl)
 have hF:=Lh (ints_From' (sgd_sub1 h hl))
 have hq:(ng a == ng b)=false:=by simpa using h
 clear ha hl h
 unfold intV
 go_enter Tryz.func126,Tryz.ntmps126
 go_wp2_with fail
 (refine rtt (hM.out _) fun w1 hsz1 hc1 hf1 HG1=>?_;(try simp at hsz1);have hz1_0:w.heap.size<w1.heap.size:=(by omega);have hz1_1:w.heap.size+1<w1.heap.size:=(by omega);have hz1_2:w.heap.size+1+1<w1.heap.size:=(by omega))
 go_wp2_with fail
 (refine(hF.out _).mono ?_;rintro e w2 ⟨rfl,hg2⟩;(try (with_reducible replace hg2:=Gr.of_drew hg2));have hsz2:=hg2.size;(try simp at hsz2);have hz2_0:w.heap.size<w2.heap.size:=(by omega);have hz2_1:w.heap.size+1<w2.heap.size:=(by omega);have hz2_2:w.heap.size+1+1<w2.heap.size:=(by omega);obtain ⟨hc2,hf2⟩:=hg2.cells;have HG2:=Lh hg2;clear hg2)
 go_wp2
 refine ret_row (g:=w.heap.size+1+1) Tryz.results126 rfl (VB.set (cs:= [.int .u64 0,.string ⟨#[]⟩,.bool false]) ?_ (intC (a+b)) rfl) Tryz.underlying57 rfl info_Int rfl ⟨rfl,?_⟩
 ·(with_reducible (repeat' (first|(refine VB.new' ?_;exact(by first|omega|(simp;done)|(simp;omega)))|apply VB.put2|apply VB.put3|apply VB.put5|refine VB.drew ?_|refine VB.far ?_ ?_ _|refine VB.alloc ?_ _|refine VB.gr ?_ HG1.out ?_|refine VB.gr ?_ HG2.out ?_|omega|(simp;done)|(simp;omega))))
 ·(with_reducible (repeat' (first|exact Gr.refl _ _|refine Gr.drew ?_|refine Gr.setCell ?_ ?_ _|refine Gr.alloc ?_ ?_ _|refine Gr.trans ?_ (Gr.mono HG1.out ?_)|refine Gr.trans ?_ (Gr.mono HG2.out ?_)|omega|(simp;done)|(simp;omega))))
set_option maxRecDepth 20000 in
set_option maxHeartbeats 400000 in
theorem plus_lt (a b:Int) (w:World) (ha:wl (sz a)≤549755813888) (hb:wl (sz b)≤549755813888) (h:ng a≠ng b) (hl:sz a<sz b):Calls Tryz.prog 126 #[intV a,intV b] w (Ret w (intV (a+b))):=by
 have hM:=Lh (fun w=>nats_Sub_less w ha hb hl)
 have hM2:=Lh (fun w=>nats_Sub w hb (Nat.le_of_lt hl))
 have hF:=Lh (ints_From' (sgd_sub2 h (Nat.le_of_lt hl)))
 have hq:(ng a == ng b)=false:=by simpa using h
 clear ha hb hl h
 unfold intV
 go_enter Tryz.func126,Tryz.ntmps126
 go_wp2_with fail
 (refine rtt (hM.out _) fun w1 hsz1 hc1 hf1 HG1=>?_;(try simp at hsz1);have hz1_0:w.heap.size<w1.heap.size:=(by omega);have hz1_1:w.heap.size+1<w1.heap.size:=(by omega);have hz1_2:w.heap.size+1+1<w1.heap.size:=(by omega))
 go_wp2_with fail
 (refine(hM2.out _).mono ?_;rintro e w2 ⟨rfl,hg2⟩;(try (with_reducible replace hg2:=Gr.of_drew hg2));have hsz2:=hg2.size;(try simp at hsz2);have hz2_0:w.heap.size<w2.heap.size:=(by omega);have hz2_1:w.heap.size+1<w2.heap.size:=(by omega);have hz2_2:w.heap.size+1+1<w2.heap.size:=(by omega);obtain ⟨hc2,hf2⟩:=hg2.cells;have HG2:=Lh hg2;clear hg2)
 go_wp2_with fail
 (refine rtt (hF.out _) fun w3 hsz3 hc3 hf3 HG3=>?_;(try simp at hsz3);have hz3_0:w.heap.size<w3.heap.size:=(by omega);have hz3_1:w.heap.size+1<w3.heap.size:=(by omega);have hz3_2:w.heap.size+1+1<w3.heap.size:=(by omega))
 go_wp2
 refine ret_row (g:=w.heap.size+1+1) Tryz.results126 rfl (VB.set (cs:= [.int .u64 0,.string ⟨#[]⟩,.bool false]) ?_ (intC (a+b)) rfl) Tryz.underlying57 rfl info_Int rfl ⟨rfl,?_⟩
 ·(with_reducible (repeat' (first|(refine VB.new' ?_;exact(by first|omega|(simp;done)|(simp;omega)))|apply VB.put2|apply VB.put3|apply VB.put5|refine VB.drew ?_|refine VB.far ?_ ?_ _|refine VB.alloc ?_ _|refine VB.gr ?_ HG1.out ?_|refine VB.gr ?_ HG2.out ?_|refine VB.gr ?_ HG3.out ?_|omega|(simp;done)|(simp;omega))))
 ·(with_reducible (repeat' (first|exact Gr.refl _ _|refine Gr.drew ?_|refine Gr.setCell ?_ ?_ _|refine Gr.alloc ?_ ?_ _|refine Gr.trans ?_ (Gr.mono HG1.out ?_)|refine Gr.trans ?_ (Gr.mono HG2.out ?_)|refine Gr.trans ?_ (Gr.mono HG3.out ?_)|omega|(simp;done)|(simp;omega))))
theorem ints_plus (a b:Int) (w:World) (ha:wl (sz a)≤549755813888) (hb:wl (sz b)≤549755813888):Calls Tryz.prog 126 #[intV a,intV b] w (Ret w (intV (a+b))):=by
 by_cases h:ng a=ng b
 ·exact plus_same a b w ha hb h
 ·rcases Nat.lt_or_ge (sz a) (sz b)with hl|hl
  ·exact plus_lt a b w ha hb h hl
  ·exact plus_ge a b w ha h hl
set_option maxRecDepth 20000 in
set_option maxHeartbeats 400000 in
theorem ints_Mul (a b:Int) (w:World) (ha:wl (sz a)≤549755813888) (hb:wl (sz b)≤549755813888):Calls Tryz.prog 79 #[intV a,intV b] w (Ret w (intV (a*b))):=by
 have hF:=Lh (told_times (fun w=>ints_times a b w ha hb))
 clear ha hb
 unfold intV
 go_enter Tryz.func79,Tryz.ntmps79
 go_wp2_with fail
 (refine rtu (hF.out _) fun w1 hsz1 hl1 hc1 hf1 HG1=>?_;(try simp at hsz1))
 go_wp2
 refine ret_row (g:=w.heap.size+1+1) Tryz.results79 rfl (VB.set (cs:= [.int .u64 0,.string ⟨#[]⟩,.bool false]) ?_ (intC (a*b)) rfl) Tryz.underlying57 rfl info_Int rfl ⟨rfl,?_⟩
 ·exact vbc HG1 vbb
 ·exact gcc HG1 gzz
set_option maxRecDepth 20000 in
set_option maxHeartbeats 400000 in
theorem ints_Add (a b:Int) (w:World) (ha:wl (sz a)≤549755813888) (hb:wl (sz b)≤549755813888):Calls Tryz.prog 84 #[intV a,intV b] w (Ret w (intV (a+b))):=by
 have hF:=Lh (told_plus (fun w=>ints_plus a b w ha hb))
 clear ha hb
 unfold intV
 go_enter Tryz.func84,Tryz.ntmps84
 go_wp2_with fail
 (refine rtu (hF.out _) fun w1 hsz1 hl1 hc1 hf1 HG1=>?_;(try simp at hsz1))
 go_wp2
 refine ret_row (g:=w.heap.size+1+1) Tryz.results84 rfl (VB.set (cs:= [.int .u64 0,.string ⟨#[]⟩,.bool false]) ?_ (intC (a+b)) rfl) Tryz.underlying57 rfl info_Int rfl ⟨rfl,?_⟩
 ·exact vbc HG1 vbb
 ·exact gcc HG1 gzz
set_option maxRecDepth 20000 in
set_option maxHeartbeats 400000 in
theorem ints_Sub (a b:Int) (w:World) (ha:wl (sz a)≤549755813888) (hb:wl (sz b)≤549755813888):Calls Tryz.prog 214 #[intV a,intV b] w (Ret w (intV (a - b))):=by
 have hF:=Lh (told_plus (fun w=>ints_plus a (-b) w ha (by unfold sz at *;rwa [Int.natAbs_neg])))
 have hN:=Lh (ints_Neg b)
 rw [←Int.sub_eq_add_neg]at hF
 clear ha hb
 unfold intV
 go_enter Tryz.func214,Tryz.ntmps214
 go_wp2_with fail
 go_region_held3 (fun w'=>w'.cell? ⟨w.heap.size,0,none⟩=some (.int .u64 (lowN (sz a)))∧w'.cell? ⟨w.heap.size,1,none⟩=some (.string (bigS (sz a)))∧w'.cell? ⟨w.heap.size,2,none⟩=some (.bool (ng a))∧w'.cell? ⟨w.heap.size+1,0,none⟩=some (.int .u64 (lowN (sz b)))∧w'.cell? ⟨w.heap.size+1,1,none⟩=some (.string (bigS (sz b)))∧w'.cell? ⟨w.heap.size+1,2,none⟩=some (.bool (ng b)))
  (first|(simp [go_sem, *];done))
  (first|((go_at_call 115;refine(hN.out _).mono ?_;rintro e w1 ⟨rfl,hg1⟩;(try (with_reducible replace hg1:=Gr.of_drew hg1));have hsz1:=hg1.size;(try simp at hsz1);have hz1_0:w.heap.size<w1.heap.size:=(by omega);have hz1_1:w.heap.size+1<w1.heap.size:=(by omega);have hz1_2:w.heap.size+1+1<w1.heap.size:=(by omega);obtain ⟨hc1,hf1⟩:=hg1.cells;have HG1:=Lh hg1;clear hg1))|((go_at_call 116;refine(hF.out _).mono ?_;rintro e w2 ⟨rfl,hg2⟩;(try (with_reducible replace hg2:=Gr.of_drew hg2));have hsz2:=hg2.size;(try simp at hsz2);have hz2_0:w.heap.size<w2.heap.size:=(by omega);have hz2_1:w.heap.size+1<w2.heap.size:=(by omega);have hz2_2:w.heap.size+1+1<w2.heap.size:=(by omega);obtain ⟨hc2,hf2⟩:=hg2.cells;have HG2:=Lh hg2;clear hg2)))
 go_wp2
 refine ret_row (g:=w.heap.size+1+1) Tryz.results214 rfl (VB.set (cs:= [.int .u64 0,.string ⟨#[]⟩,.bool false]) ?_ (intC (a - b)) rfl) Tryz.underlying57 rfl info_Int rfl ⟨rfl,?_⟩
 ·(with_reducible (repeat' (first|(refine VB.new' ?_;exact(by first|omega|(simp;done)|(simp;omega)))|apply VB.put2|apply VB.put3|apply VB.put5|refine VB.drew ?_|refine VB.far ?_ ?_ _|refine VB.alloc ?_ _|refine VB.gr ?_ HG1.out ?_|refine VB.gr ?_ HG2.out ?_|omega|(simp;done)|(simp;omega))))
 ·(with_reducible (repeat' (first|exact Gr.refl _ _|refine Gr.drew ?_|refine Gr.setCell ?_ ?_ _|refine Gr.alloc ?_ ?_ _|refine Gr.trans ?_ (Gr.mono HG1.out ?_)|refine Gr.trans ?_ (Gr.mono HG2.out ?_)|omega|(simp;done)|(simp;omega))))
set_option maxRecDepth 20000 in
set_option maxHeartbeats 400000 in
theorem ints_Cmp (a b:Int) (w:World) (ha:wl (sz a)≤549755813888) (hb:wl (sz b)≤549755813888):Calls Tryz.prog 206 #[intV a,intV b] w (Ret w (.int .i64 (sgnI (a - b)))):=by
 have hF:=Lh (fun w=>ints_Sub a b w ha hb)
 have hN:=Lh (ints_Sign (a - b))
 clear ha hb
 unfold intV
 go_enter Tryz.func206,Tryz.ntmps206
 go_wp2_with fail
 (refine rtu (hF.out _) fun w1 hsz1 hl1 hc1 hf1 HG1=>?_;(try simp at hsz1))
 go_wp2_with fail
 (refine rtu (hN.out _) fun w2 hsz2 hl2 hc2 hf2 HG2=>?_;(try simp at hsz2))
 go_wp2
 go_ret
 exact⟨rfl,by(with_reducible (repeat' (first|exact Gr.refl _ _|refine Gr.drew ?_|refine Gr.setCell ?_ ?_ _|refine Gr.alloc ?_ ?_ _|refine Gr.trans ?_ (Gr.mono HG1.out ?_)|refine Gr.trans ?_ (Gr.mono HG2.out ?_)|omega|(simp;done)|(simp;omega))))⟩
end Go.Proofs.YtfgmdhjmgdccdaaGreat
