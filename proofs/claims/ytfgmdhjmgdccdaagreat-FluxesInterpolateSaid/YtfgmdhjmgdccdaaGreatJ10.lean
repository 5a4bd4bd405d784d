/-
  Part 10 of the proof: FracB.
-/
import Derived.Test.YtfgmdhjmgdccdaaGreatJ9
set_option linter.unusedSimpArgs false
set_option linter.unusedVariables false
set_option maxHeartbeats 8000000
namespace Go.Proofs.YtfgmdhjmgdccdaaGreat
open Go.RowKit Gus
theorem wl_le_succ (m:Nat):wl m≤wl (m+1):=wl_mono (by omega)
theorem sz_add (a b:Int):sz (a+b)≤sz a+sz b:=by unfold sz;omega
theorem sz_mul (a b:Int):sz (a*b)=sz a*sz b:=by unfold sz;exact Int.natAbs_mul _ _
theorem sz_nat (n:Nat):sz (n:Int)=n:=by unfold sz;omega
theorem sz_neg (a:Int):sz (-a)=sz a:=by unfold sz;omega
theorem wl_sz_add (a b:Int):wl (sz (a+b))≤max (wl (sz a)) (wl (sz b))+1:=Nat.le_trans (wl_mono (sz_add a b)) (wl_add _ _)
theorem wl_sz_mul (a b:Int):wl (sz (a*b))≤wl (sz a)+wl (sz b):=by rw [sz_mul];exact wl_mul _ _
set_option maxRecDepth 20000 in
set_option maxHeartbeats 4000000 in
theorem Add_whole (n n':Int) (w:World) (hn:wl (sz n)≤100000000000) (hn':wl (sz n')≤100000000000):Calls Tryz.prog 39 #[frV n 0,frV n' 0] w (Ret w (frV (n+n') 0)):=by
 have hW:=fr_Whole n 0
 have hW':=fr_Whole n' 0
 rw [decide_eq_true rfl]at hW hW'
 have hW:=Lh hW
 have hW':=Lh hW'
 have hA:=Lh (fun w=>ints_Add n n' w (by omega) (by omega))
 have hO:=Lh (fr_whole (n+n'))
 clear hn hn'
 generalize hz:(0:Nat)=z at *
 clear hz
 generalize n+n'=r at *
 unfold frV
 go_enter Tryz.func39,Tryz.ntmps39
 go_wp2_with fail
 (refine rtt (hW.out _) fun w1 hsz1 hc1 hf1 HG1=>?_;(try simp at hsz1);have hz1_0:w.heap.size<w1.heap.size:=(by omega);have hz1_1:w.heap.size+1<w1.heap.size:=(by omega);have hz1_2:w.heap.size+1+1<w1.heap.size:=(by omega))
 go_wp2_with fail
 (refine rtt (hW'.out _) fun w2 hsz2 hc2 hf2 HG2=>?_;(try simp at hsz2);have hz2_0:w.heap.size<w2.heap.size:=(by omega);have hz2_1:w.heap.size+1<w2.heap.size:=(by omega);have hz2_2:w.heap.size+1+1<w2.heap.size:=(by omega))
 go_wp2_with fail
 (refine rtt (hA.out _) fun w3 hsz3 hc3 hf3 HG3=>?_;(try simp at hsz3);have hz3_0:w.heap.size<w3.heap.size:=(by omega);have hz3_1:w.heap.size+1<w3.heap.size:=(by omega);have hz3_2:w.heap.size+1+1<w3.heap.size:=(by omega))
 go_wp2_with fail
 (refine rtt (hO.out _) fun w4 hsz4 hc4 hf4 HG4=>?_;(try simp at hsz4);have hz4_0:w.heap.size<w4.heap.size:=(by omega);have hz4_1:w.heap.size+1<w4.heap.size:=(by omega);have hz4_2:w.heap.size+1+1<w4.heap.size:=(by omega))
 go_wp2
 refine ret_row (g:=w.heap.size+1+1) Tryz.results39 rfl (VB.set (cs:= [zU,zS,.bool false,zU,zS]) ?_ (frC r z) rfl) Tryz.underlying59 rfl info_Frac rfl ⟨rfl,?_⟩
 ·exact vbc HG4 (vbc HG3 (vbc HG2 (vbc HG1 vbb)))
 ·exact gcc HG4 (gcc HG3 (gcc HG2 (gcc HG1 gzz)))
set_option maxRecDepth 20000 in
set_option maxHeartbeats 4000000 in
theorem Add_same (n:Int) (m:Nat) (n':Int) (w:World) (hn:wl (sz n)≤100000000000) (hm:wl (m+1)≤100000000000) (hn':wl (sz n')≤100000000000) (h0:m≠0):Calls Tryz.prog 39 #[frV n m,frV n' m] w (Ret w (frV (lwN (n+n') (m+1)) (lwD (n+n') (m+1)))):=by
 have hq:=nat_eq m m
 rw [decide_eq_true rfl]at hq
 have hW:=Lh (fr_Whole n m)
 rw [decide_eq_false h0]at hW
 have hA:=Lh (fun w=>ints_Add n n' w (by omega) (by omega))
 have hD:=Lh (fun w=>fr_den n m w (by have:=wl_le_succ m;omega))
 have hL:=Lh (fun w=>fr_lowest (n+n') (m+1) w (by have:=wl_sz_add n n';omega) (by omega) (by omega))
 clear hn hn' hm h0
 generalize lwN (n+n') (m+1)=rn at *
 generalize lwD (n+n') (m+1)=rd at *
 generalize m+1=d at *
 generalize n+n'=r at *
 unfold frV
 go_enter Tryz.func39,Tryz.ntmps39
 go_wp2_with fail
 (refine rtt (hW.out _) fun w1 hsz1 hc1 hf1 HG1=>?_;(try simp at hsz1);have hz1_0:w.heap.size<w1.heap.size:=(by omega);have hz1_1:w.heap.size+1<w1.heap.size:=(by omega);have hz1_2:w.heap.size+1+1<w1.heap.size:=(by omega))
 go_wp2_with fail
 go_region_held3 (fun w'=>w'.cell? ⟨w.heap.size,0,none⟩=some (nA n)∧w'.cell? ⟨w.heap.size,1,none⟩=some (nB n)∧w'.cell? ⟨w.heap.size,2,none⟩=some (nC n)∧w'.cell? ⟨w.heap.size,3,none⟩=some (nD m)∧w'.cell? ⟨w.heap.size,4,none⟩=some (nE m)∧w'.cell? ⟨w.heap.size+1,0,none⟩=some (nA n')∧w'.cell? ⟨w.heap.size+1,1,none⟩=some (nB n')∧w'.cell? ⟨w.heap.size+1,2,none⟩=some (nC n')∧w'.cell? ⟨w.heap.size+1,3,none⟩=some (nD m)∧w'.cell? ⟨w.heap.size+1,4,none⟩=some (nE m))
  (first|(simp [go_sem, *];done))
  (first|((go_at_call 84;refine(hA.out _).mono ?_;rintro e w2 ⟨rfl,hg2⟩;(try (with_reducible replace hg2:=Gr.of_drew hg2));have hsz2:=hg2.size;(try simp at hsz2);have hz2_0:w.heap.size<w2.heap.size:=(by omega);have hz2_1:w.heap.size+1<w2.heap.size:=(by omega);have hz2_2:w.heap.size+1+1<w2.heap.size:=(by omega);obtain ⟨hc2,hf2⟩:=hg2.cells;have HG2:=Lh hg2;clear hg2))|((go_at_call 82;refine(hD.out _).mono ?_;rintro e w3 ⟨rfl,hg3⟩;(try (with_reducible replace hg3:=Gr.of_drew hg3));have hsz3:=hg3.size;(try simp at hsz3);have hz3_0:w.heap.size<w3.heap.size:=(by omega);have hz3_1:w.heap.size+1<w3.heap.size:=(by omega);have hz3_2:w.heap.size+1+1<w3.heap.size:=(by omega);obtain ⟨hc3,hf3⟩:=hg3.cells;have HG3:=Lh hg3;clear hg3))|((go_at_call 80;refine(hL.out _).mono ?_;rintro e w4 ⟨rfl,hg4⟩;(try (with_reducible replace hg4:=Gr.of_drew hg4));have hsz4:=hg4.size;(try simp at hsz4);have hz4_0:w.heap.size<w4.heap.size:=(by omega);have hz4_1:w.heap.size+1<w4.heap.size:=(by omega);have hz4_2:w.heap.size+1+1<w4.heap.size:=(by omega);obtain ⟨hc4,hf4⟩:=hg4.cells;have HG4:=Lh hg4;clear hg4)))
 go_wp2
 refine ret_row (g:=w.heap.size+1+1) Tryz.results39 rfl (VB.set (cs:= [zU,zS,.bool false,zU,zS]) ?_ (frC rn rd) rfl) Tryz.underlying59 rfl info_Frac rfl ⟨rfl,?_⟩
 ·exact vbc HG4 (vbc HG3 (vbc HG2 (vbc HG1 vbb)))
 ·exact gcc HG4 (gcc HG3 (gcc HG2 (gcc HG1 gzz)))
set_option maxRecDepth 20000 in
set_option maxHeartbeats 4000000 in
theorem Add_far0 (n:Int) (m:Nat) (n':Int) (m':Nat) (w:World) (hn:wl (sz n)≤100000000000) (hm:wl (m+1)≤100000000000) (hn':wl (sz n')≤100000000000) (hm':wl (m'+1)≤100000000000) (hne:m≠m') (h0:m=0):Calls Tryz.prog 39 #[frV n m,frV n' m'] w (Ret w (frV (lwN (n*((m'+1:Nat):Int)+n'*((m+1:Nat):Int)) ((m+1)*(m'+1))) (lwD (n*((m'+1:Nat):Int)+n'*((m+1:Nat):Int)) ((m+1)*(m'+1))))):=by
 have hq:=nat_eq m m'
 rw [decide_eq_false hne]at hq
 have hW:=Lh (fr_Whole n m)
 rw [decide_eq_true h0]at hW
 have hW':=Lh (fr_Whole n' m')
 rw [decide_eq_false (by omega:m'≠0)]at hW'
 have b1:=wl_sz_mul n ((m'+1:Nat):Int)
 have b2:=wl_sz_mul n' ((m+1:Nat):Int)
 rw [sz_nat]at b1 b2
 have b3:=wl_sz_add (n*((m'+1:Nat):Int)) (n'*((m+1:Nat):Int))
 have b4:=wl_mul (m+1) (m'+1)
 have hS':=Lh (fun w=>fr_signed n' m' w (by have:=wl_le_succ m';omega))
 have hM1:=Lh (fun w=>ints_Mul n ((m'+1:Nat):Int) w (by omega) (by rw [sz_nat];omega))
 have hS:=Lh (fun w=>fr_signed n m w (by have:=wl_le_succ m;omega))
 have hM2:=Lh (fun w=>ints_Mul n' ((m+1:Nat):Int) w (by omega) (by rw [sz_nat];omega))
 have hA:=Lh (fun w=>ints_Add (n*((m'+1:Nat):Int)) (n'*((m+1:Nat):Int)) w (by omega) (by omega))
 have hD:=Lh (fun w=>fr_den n m w (by have:=wl_le_succ m;omega))
 have hD':=Lh (fun w=>fr_den n' m' w (by have:=wl_le_succ m';omega))
 have hM:=Lh (fun w=>nats_Mul (m+1) (m'+1) w (by omega) (by omega))
 have hL:=Lh (fun w=>fr_lowest (n*((m'+1:Nat):Int)+n'*((m+1:Nat):Int)) ((m+1)*(m'+1)) w (by omega) (by omega) (Nat.mul_pos (by omega) (by omega)))
 clear hn hn' hm hm' b1 b2 b3 b4 hne h0
 generalize lwN (n*((m'+1:Nat):Int)+n'*((m+1:Nat):Int)) ((m+1)*(m'+1))=rn at *
 generalize lwD (n*((m'+1:Nat):Int)+n'*((m+1:Nat):Int)) ((m+1)*(m'+1))=rd at *
 generalize n*((m'+1:Nat):Int)+n'*((m+1:Nat):Int)=x at *
 generalize n*((m'+1:Nat):Int)=x1 at *
 generalize n'*((m+1:Nat):Int)=x2 at *
 generalize (m+1)*(m'+1)=d at *
 generalize ((m+1:Nat):Int)=i1 at *
 generalize ((m'+1:Nat):Int)=i2 at *
 generalize m+1=d1 at *
 generalize m'+1=d2 at *
 unfold frV
 go_enter Tryz.func39,Tryz.ntmps39
 go_wp2_with fail
 (refine rtt (hW.out _) fun w1 hsz1 hc1 hf1 HG1=>?_;(try simp at hsz1);have hz1_0:w.heap.size<w1.heap.size:=(by omega);have hz1_1:w.heap.size+1<w1.heap.size:=(by omega);have hz1_2:w.heap.size+1+1<w1.heap.size:=(by omega))
 go_wp2_with fail
 (refine rtt (hW'.out _) fun w9 hsz9 hc9 hf9 HG9=>?_;(try simp at hsz9);have hz9_0:w.heap.size<w9.heap.size:=(by omega);have hz9_1:w.heap.size+1<w9.heap.size:=(by omega);have hz9_2:w.heap.size+1+1<w9.heap.size:=(by omega))
 go_wp2_with fail
 go_region_held3 (fun w'=>w'.cell? ⟨w.heap.size,0,none⟩=some (nA n)∧w'.cell? ⟨w.heap.size,1,none⟩=some (nB n)∧w'.cell? ⟨w.heap.size,2,none⟩=some (nC n)∧w'.cell? ⟨w.heap.size,3,none⟩=some (nD m)∧w'.cell? ⟨w.heap.size,4,none⟩=some (nE m)∧w'.cell? ⟨w.heap.size+1,0,none⟩=some (nA n')∧w'.cell? ⟨w.heap.size+1,1,none⟩=some (nB n')∧w'.cell? ⟨w.heap.size+1,2,none⟩=some (nC n')∧w'.cell? ⟨w.heap.size+1,3,none⟩=some (nD m')∧w'.cell? ⟨w.heap.size+1,4,none⟩=some (nE m'))
  (first|(simp [go_sem, *];done))
  (first|((go_at_call_of 85 (Value.agg #[nA n',nB n',nC n',nD m',nE m']);refine(hS'.out _).mono ?_;rintro e w2 ⟨rfl,hg2⟩;(try (with_reducible replace hg2:=Gr.of_drew hg2));have hsz2:=hg2.size;(try simp at hsz2);have hz2_0:w.heap.size<w2.heap.size:=(by omega);have hz2_1:w.heap.size+1<w2.heap.size:=(by omega);have hz2_2:w.heap.size+1+1<w2.heap.size:=(by omega);obtain ⟨hc2,hf2⟩:=hg2.cells;have HG2:=Lh hg2;clear hg2))|((go_at_call_of 79 (Value.agg #[nA n,nB n,nC n]);refine(hM1.out _).mono ?_;rintro e w3 ⟨rfl,hg3⟩;(try (with_reducible replace hg3:=Gr.of_drew hg3));have hsz3:=hg3.size;(try simp at hsz3);have hz3_0:w.heap.size<w3.heap.size:=(by omega);have hz3_1:w.heap.size+1<w3.heap.size:=(by omega);have hz3_2:w.heap.size+1+1<w3.heap.size:=(by omega);obtain ⟨hc3,hf3⟩:=hg3.cells;have HG3:=Lh hg3;clear hg3))|((go_at_call_of 85 (Value.agg #[nA n,nB n,nC n,nD m,nE m]);refine(hS.out _).mono ?_;rintro e w4 ⟨rfl,hg4⟩;(try (with_reducible replace hg4:=Gr.of_drew hg4));have hsz4:=hg4.size;(try simp at hsz4);have hz4_0:w.heap.size<w4.heap.size:=(by omega);have hz4_1:w.heap.size+1<w4.heap.size:=(by omega);have hz4_2:w.heap.size+1+1<w4.heap.size:=(by omega);obtain ⟨hc4,hf4⟩:=hg4.cells;have HG4:=Lh hg4;clear hg4))|((go_at_call_of 79 (Value.agg #[nA n',nB n',nC n']);refine(hM2.out _).mono ?_;rintro e w5 ⟨rfl,hg5⟩;(try (with_reducible replace hg5:=Gr.of_drew hg5));have hsz5:=hg5.size;(try simp at hsz5);have hz5_0:w.heap.size<w5.heap.size:=(by omega);have hz5_1:w.heap.size+1<w5.heap.size:=(by omega);have hz5_2:w.heap.size+1+1<w5.heap.size:=(by omega);obtain ⟨hc5,hf5⟩:=hg5.cells;have HG5:=Lh hg5;clear hg5))|((go_at_call 84;refine(hA.out _).mono ?_;rintro e w6 ⟨rfl,hg6⟩;(try (with_reducible replace hg6:=Gr.of_drew hg6));have hsz6:=hg6.size;(try simp at hsz6);have hz6_0:w.heap.size<w6.heap.size:=(by omega);have hz6_1:w.heap.size+1<w6.heap.size:=(by omega);have hz6_2:w.heap.size+1+1<w6.heap.size:=(by omega);obtain ⟨hc6,hf6⟩:=hg6.cells;have HG6:=Lh hg6;clear hg6))|((go_at_call_of 82 (Value.agg #[nA n,nB n,nC n,nD m,nE m]);refine(hD.out _).mono ?_;rintro e w7 ⟨rfl,hg7⟩;(try (with_reducible replace hg7:=Gr.of_drew hg7));have hsz7:=hg7.size;(try simp at hsz7);have hz7_0:w.heap.size<w7.heap.size:=(by omega);have hz7_1:w.heap.size+1<w7.heap.size:=(by omega);have hz7_2:w.heap.size+1+1<w7.heap.size:=(by omega);obtain ⟨hc7,hf7⟩:=hg7.cells;have HG7:=Lh hg7;clear hg7))|((go_at_call_of 82 (Value.agg #[nA n',nB n',nC n',nD m',nE m']);refine(hD'.out _).mono ?_;rintro e w8 ⟨rfl,hg8⟩;(try (with_reducible replace hg8:=Gr.of_drew hg8));have hsz8:=hg8.size;(try simp at hsz8);have hz8_0:w.heap.size<w8.heap.size:=(by omega);have hz8_1:w.heap.size+1<w8.heap.size:=(by omega);have hz8_2:w.heap.size+1+1<w8.heap.size:=(by omega);obtain ⟨hc8,hf8⟩:=hg8.cells;have HG8:=Lh hg8;clear hg8))|((go_at_call 81;refine(hM.out _).mono ?_;rintro e w10 ⟨rfl,hg10⟩;(try (with_reducible replace hg10:=Gr.of_drew hg10));have hsz10:=hg10.size;(try simp at hsz10);have hz10_0:w.heap.size<w10.heap.size:=(by omega);have hz10_1:w.heap.size+1<w10.heap.size:=(by omega);have hz10_2:w.heap.size+1+1<w10.heap.size:=(by omega);obtain ⟨hc10,hf10⟩:=hg10.cells;have HG10:=Lh hg10;clear hg10))|((go_at_call 80;refine(hL.out _).mono ?_;rintro e w11 ⟨rfl,hg11⟩;(try (with_reducible replace hg11:=Gr.of_drew hg11));have hsz11:=hg11.size;(try simp at hsz11);have hz11_0:w.heap.size<w11.heap.size:=(by omega);have hz11_1:w.heap.size+1<w11.heap.size:=(by omega);have hz11_2:w.heap.size+1+1<w11.heap.size:=(by omega);obtain ⟨hc11,hf11⟩:=hg11.cells;have HG11:=Lh hg11;clear hg11)))
 go_wp2
 refine ret_row (g:=w.heap.size+1+1) Tryz.results39 rfl (VB.set (cs:= [zU,zS,.bool false,zU,zS]) ?_ (frC rn rd) rfl) Tryz.underlying59 rfl info_Frac rfl ⟨rfl,?_⟩
 ·exact vbc HG11 (vbc HG10 (vbc HG8 (vbc HG7 (vbc HG6 (vbc HG5 (vbc HG4 (vbc HG3 (vbc HG2 (vbc HG9 (vbc HG1 vbb))))))))))
 ·exact gcc HG11 (gcc HG10 (gcc HG8 (gcc HG7 (gcc HG6 (gcc HG5 (gcc HG4 (gcc HG3 (gcc HG2 (gcc HG9 (gcc HG1 gzz))))))))))
set_option maxRecDepth 20000 in
set_option maxHeartbeats 4000000 in
theorem Add_far1 (n:Int) (m:Nat) (n':Int) (m':Nat) (w:World) (hn:wl (sz n)≤100000000000) (hm:wl (m+1)≤100000000000) (hn':wl (sz n')≤100000000000) (hm':wl (m'+1)≤100000000000) (hne:m≠m') (h0:m≠0):Calls Tryz.prog 39 #[frV n m,frV n' m'] w (Ret w (frV (lwN (n*((m'+1:Nat):Int)+n'*((m+1:Nat):Int)) ((m+1)*(m'+1))) (lwD (n*((m'+1:Nat):Int)+n'*((m+1:Nat):Int)) ((m+1)*(m'+1))))):=by
 have hq:=nat_eq m m'
 rw [decide_eq_false hne]at hq
 have hW:=Lh (fr_Whole n m)
 rw [decide_eq_false h0]at hW
 have hW':=Lh (fr_Whole n' m')
 have b1:=wl_sz_mul n ((m'+1:Nat):Int)
 have b2:=wl_sz_mul n' ((m+1:Nat):Int)
 rw [sz_nat]at b1 b2
 have b3:=wl_sz_add (n*((m'+1:Nat):Int)) (n'*((m+1:Nat):Int))
 have b4:=wl_mul (m+1) (m'+1)
 have hS':=Lh (fun w=>fr_signed n' m' w (by have:=wl_le_succ m';omega))
 have hM1:=Lh (fun w=>ints_Mul n ((m'+1:Nat):Int) w (by omega) (by rw [sz_nat];omega))
 have hS:=Lh (fun w=>fr_signed n m w (by have:=wl_le_succ m;omega))
 have hM2:=Lh (fun w=>ints_Mul n' ((m+1:Nat):Int) w (by omega) (by rw [sz_nat];omega))
 have hA:=Lh (fun w=>ints_Add (n*((m'+1:Nat):Int)) (n'*((m+1:Nat):Int)) w (by omega) (by omega))
 have hD:=Lh (fun w=>fr_den n m w (by have:=wl_le_succ m;omega))
 have hD':=Lh (fun w=>fr_den n' m' w (by have:=wl_le_succ m';omega))
 have hM:=Lh (fun w=>nats_Mul (m+1) (m'+1) w (by omega) (by omega))
 have hL:=Lh (fun w=>fr_lowest (n*((m'+1:Nat):Int)+n'*((m+1:Nat):Int)) ((m+1)*(m'+1)) w (by omega) (by omega) (Nat.mul_pos (by omega) (by omega)))
 clear hn hn' hm hm' b1 b2 b3 b4 hne h0
 generalize lwN (n*((m'+1:Nat):Int)+n'*((m+1:Nat):Int)) ((m+1)*(m'+1))=rn at *
 generalize lwD (n*((m'+1:Nat):Int)+n'*((m+1:Nat):Int)) ((m+1)*(m'+1))=rd at *
 generalize n*((m'+1:Nat):Int)+n'*((m+1:Nat):Int)=x at *
 generalize n*((m'+1:Nat):Int)=x1 at *
 generalize n'*((m+1:Nat):Int)=x2 at *
 generalize (m+1)*(m'+1)=d at *
 generalize ((m+1:Nat):Int)=i1 at *
 generalize ((m'+1:Nat):Int)=i2 at *
 generalize m+1=d1 at *
 generalize m'+1=d2 at *
 unfold frV
 go_enter Tryz.func39,Tryz.ntmps39
 go_wp2_with fail
 (refine rtt (hW.out _) fun w1 hsz1 hc1 hf1 HG1=>?_;(try simp at hsz1);have hz1_0:w.heap.size<w1.heap.size:=(by omega);have hz1_1:w.heap.size+1<w1.heap.size:=(by omega);have hz1_2:w.heap.size+1+1<w1.heap.size:=(by omega))
 go_wp2_with fail
 go_region_held3 (fun w'=>w'.cell? ⟨w.heap.size,0,none⟩=some (.int .u64 (lowN (sz n)))∧w'.cell? ⟨w.heap.size,1,none⟩=some (.string (bigS (sz n)))∧w'.cell? ⟨w.heap.size,2,none⟩=some (.bool (ng n))∧w'.cell? ⟨w.heap.size,3,none⟩=some (.int .u64 (lowN m))∧w'.cell? ⟨w.heap.size,4,none⟩=some (.string (bigS m))∧w'.cell? ⟨w.heap.size+1,0,none⟩=some (.int .u64 (lowN (sz n')))∧w'.cell? ⟨w.heap.size+1,1,none⟩=some (.string (bigS (sz n')))∧w'.cell? ⟨w.heap.size+1,2,none⟩=some (.bool (ng n'))∧w'.cell? ⟨w.heap.size+1,3,none⟩=some (.int .u64 (lowN m'))∧w'.cell? ⟨w.heap.size+1,4,none⟩=some (.string (bigS m')))
  (first|(simp [go_sem, *];done))
  (first|((go_at_call_of 85 (Value.agg #[.int .u64 (lowN (sz n')),.string (bigS (sz n')),.bool (ng n'),.int .u64 (lowN m'),.string (bigS m')]);refine(hS'.out _).mono ?_;rintro e w2 ⟨rfl,hg2⟩;(try (with_reducible replace hg2:=Gr.of_drew hg2));have hsz2:=hg2.size;(try simp at hsz2);have hz2_0:w.heap.size<w2.heap.size:=(by omega);have hz2_1:w.heap.size+1<w2.heap.size:=(by omega);have hz2_2:w.heap.size+1+1<w2.heap.size:=(by omega);obtain ⟨hc2,hf2⟩:=hg2.cells;have HG2:=Lh hg2;clear hg2))|((go_at_call_of 79 (Value.agg #[.int .u64 (lowN (sz n)),.string (bigS (sz n)),.bool (ng n)]);refine(hM1.out _).mono ?_;rintro e w3 ⟨rfl,hg3⟩;(try (with_reducible replace hg3:=Gr.of_drew hg3));have hsz3:=hg3.size;(try simp at hsz3);have hz3_0:w.heap.size<w3.heap.size:=(by omega);have hz3_1:w.heap.size+1<w3.heap.size:=(by omega);have hz3_2:w.heap.size+1+1<w3.heap.size:=(by omega);obtain ⟨hc3,hf3⟩:=hg3.cells;have HG3:=Lh hg3;clear hg3))|((go_at_call_of 85 (Value.agg #[.int .u64 (lowN (sz n)),.string (bigS (sz n)),.bool (ng n),.int .u64 (lowN m),.string (bigS m)]);refine(hS.out _).mono ?_;rintro e w4 ⟨rfl,hg4⟩;(try (with_reducible replace hg4:=Gr.of_drew hg4));have hsz4:=hg4.size;(try simp at hsz4);have hz4_0:w.heap.size<w4.heap.size:=(by omega);have hz4_1:w.heap.size+1<w4.heap.size:=(by omega);have hz4_2:w.heap.size+1+1<w4.heap.size:=(by omega);obtain ⟨hc4,hf4⟩:=hg4.cells;have HG4:=Lh hg4;clear hg4))|((go_at_call_of 79 (Value.agg #[.int .u64 (lowN (sz n')),.string (bigS (sz n')),.bool (ng n')]);refine(hM2.out _).mono ?_;rintro e w5 ⟨rfl,hg5⟩;(try (with_reducible replace hg5:=Gr.of_drew hg5));have hsz5:=hg5.size;(try simp at hsz5);have hz5_0:w.heap.size<w5.heap.size:=(by omega);have hz5_1:w.heap.size+1<w5.heap.size:=(by omega);have hz5_2:w.heap.size+1+1<w5.heap.size:=(by omega);obtain ⟨hc5,hf5⟩:=hg5.cells;have HG5:=Lh hg5;clear hg5))|((go_at_call 84;refine(hA.out _).mono ?_;rintro e w6 ⟨rfl,hg6⟩;(try (with_reducible replace hg6:=Gr.of_drew hg6));have hsz6:=hg6.size;(try simp at hsz6);have hz6_0:w.heap.size<w6.heap.size:=(by omega);have hz6_1:w.heap.size+1<w6.heap.size:=(by omega);have hz6_2:w.heap.size+1+1<w6.heap.size:=(by omega);obtain ⟨hc6,hf6⟩:=hg6.cells;have HG6:=Lh hg6;clear hg6))|((go_at_call_of 82 (Value.agg #[.int .u64 (lowN (sz n)),.string (bigS (sz n)),.bool (ng n),.int .u64 (lowN m),.string (bigS m)]);refine(hD.out _).mono ?_;rintro e w7 ⟨rfl,hg7⟩;(try (with_reducible replace hg7:=Gr.of_drew hg7));have hsz7:=hg7.size;(try simp at hsz7);have hz7_0:w.heap.size<w7.heap.size:=(by omega);have hz7_1:w.heap.size+1<w7.heap.size:=(by omega);have hz7_2:w.heap.size+1+1<w7.heap.size:=(by omega);obtain ⟨hc7,hf7⟩:=hg7.cells;have HG7:=Lh hg7;clear hg7))|((go_at_call_of 82 (Value.agg #[.int .u64 (lowN (sz n')),.string (bigS (sz n')),.bool (ng n'),.int .u64 (lowN m'),.string (bigS m')]);refine(hD'.out _).mono ?_;rintro e w8 ⟨rfl,hg8⟩;(try (with_reducible replace hg8:=Gr.of_drew hg8));have hsz8:=hg8.size;(try simp at hsz8);have hz8_0:w.heap.size<w8.heap.size:=(by omega);have hz8_1:w.heap.size+1<w8.heap.size:=(by omega);have hz8_2:w.heap.size+1+1<w8.heap.size:=(by omega);obtain ⟨hc8,hf8⟩:=hg8.cells;have HG8:=Lh hg8;clear hg8))|((go_at_call 81;refine(hM.out _).mono ?_;rintro e w10 ⟨rfl,hg10⟩;(try (with_reducible replace hg10:=Gr.of_drew hg10));have hsz10:=hg10.size;(try simp at hsz10);have hz10_0:w.heap.size<w10.heap.size:=(by omega);have hz10_1:w.heap.size+1<w10.heap.size:=(by omega);have hz10_2:w.heap.size+1+1<w10.heap.size:=(by omega);obtain ⟨hc10,hf10⟩:=hg10.cells;have HG10:=Lh hg10;clear hg10))|((go_at_call 80;refine(hL.out _).mono ?_;rintro e w11 ⟨rfl,hg11⟩;(try (with_reducible replace hg11:=Gr.of_drew hg11));have hsz11:=hg11.size;(try simp at hsz11);have hz11_0:w.heap.size<w11.heap.size:=(by omega);have hz11_1:w.heap.size+1<w11.heap.size:=(by omega);have hz11_2:w.heap.size+1+1<w11.heap.size:=(by omega);obtain ⟨hc11,hf11⟩:=hg11.cells;have HG11:=Lh hg11;clear hg11)))
 go_wp2
 refine ret_row (g:=w.heap.size+1+1) Tryz.results39 rfl (VB.set (cs:= [.int .u64 0,.string ⟨#[]⟩,.bool false,.int .u64 0,.string ⟨#[]⟩]) ?_ (frC rn rd) rfl) Tryz.underlying59 rfl info_Frac rfl ⟨rfl,?_⟩
 ·(with_reducible (repeat' (first|(refine VB.new' ?_;exact(by first|omega|(simp;done)|(simp;omega)))|apply VB.put2|apply VB.put3|apply VB.put5|refine VB.drew ?_|refine VB.far ?_ ?_ _|refine VB.alloc ?_ _|refine VB.gr ?_ HG11.out ?_|refine VB.gr ?_ HG10.out ?_|refine VB.gr ?_ HG8.out ?_|refine VB.gr ?_ HG7.out ?_|refine VB.gr ?_ HG6.out ?_|refine VB.gr ?_ HG5.out ?_|refine VB.gr ?_ HG4.out ?_|refine VB.gr ?_ HG3.out ?_|refine VB.gr ?_ HG2.out ?_|refine VB.gr ?_ HG9.out ?_|refine VB.gr ?_ HG1.out ?_|omega|(simp;done)|(simp;omega))))
 ·(with_reducible (repeat' (first|exact Gr.refl _ _|refine Gr.drew ?_|refine Gr.setCell ?_ ?_ _|refine Gr.alloc ?_ ?_ _|refine Gr.trans ?_ (Gr.mono HG11.out ?_)|refine Gr.trans ?_ (Gr.mono HG10.out ?_)|refine Gr.trans ?_ (Gr.mono HG8.out ?_)|refine Gr.trans ?_ (Gr.mono HG7.out ?_)|refine Gr.trans ?_ (Gr.mono HG6.out ?_)|refine Gr.trans ?_ (Gr.mono HG5.out ?_)|refine Gr.trans ?_ (Gr.mono HG4.out ?_)|refine Gr.trans ?_ (Gr.mono HG3.out ?_)|refine Gr.trans ?_ (Gr.mono HG2.out ?_)|refine Gr.trans ?_ (Gr.mono HG9.out ?_)|refine Gr.trans ?_ (Gr.mono HG1.out ?_)|omega|(simp;done)|(simp;omega))))
set_option maxRecDepth 20000 in
set_option maxHeartbeats 4000000 in
theorem Mul_whole (n n':Int) (w:World) (hn:wl (sz n)≤100000000000) (hn':wl (sz n')≤100000000000):Calls Tryz.prog 37 #[frV n 0,frV n' 0] w (Ret w (frV (n*n') 0)):=by
 have hW:=fr_Whole n 0
 have hW':=fr_Whole n' 0
 rw [decide_eq_true rfl]at hW hW'
 have hW:=Lh hW
 have hW':=Lh hW'
 have hA:=Lh (fun w=>ints_Mul n n' w (by omega) (by omega))
 have hO:=Lh (fr_whole (n*n'))
 clear hn hn'
 generalize hz:(0:Nat)=z at *
 clear hz
 generalize n*n'=r at *
 unfold frV
 go_enter Tryz.func37,Tryz.ntmps37
 go_wp2_with fail
 (refine rtt (hW.out _) fun w1 hsz1 hc1 hf1 HG1=>?_;(try simp at hsz1);have hz1_0:w.heap.size<w1.heap.size:=(by omega);have hz1_1:w.heap.size+1<w1.heap.size:=(by omega);have hz1_2:w.heap.size+1+1<w1.heap.size:=(by omega))
 go_wp2_with fail
 (refine rtt (hW'.out _) fun w2 hsz2 hc2 hf2 HG2=>?_;(try simp at hsz2);have hz2_0:w.heap.size<w2.heap.size:=(by omega);have hz2_1:w.heap.size+1<w2.heap.size:=(by omega);have hz2_2:w.heap.size+1+1<w2.heap.size:=(by omega))
 go_wp2_with fail
 (refine rtt (hA.out _) fun w3 hsz3 hc3 hf3 HG3=>?_;(try simp at hsz3);have hz3_0:w.heap.size<w3.heap.size:=(by omega);have hz3_1:w.heap.size+1<w3.heap.size:=(by omega);have hz3_2:w.heap.size+1+1<w3.heap.size:=(by omega))
 go_wp2_with fail
 (refine rtt (hO.out _) fun w4 hsz4 hc4 hf4 HG4=>?_;(try simp at hsz4);have hz4_0:w.heap.size<w4.heap.size:=(by omega);have hz4_1:w.heap.size+1<w4.heap.size:=(by omega);have hz4_2:w.heap.size+1+1<w4.heap.size:=(by omega))
 go_wp2
 refine ret_row (g:=w.heap.size+1+1) Tryz.results37 rfl (VB.set (cs:= [zU,zS,.bool false,zU,zS]) ?_ (frC r z) rfl) Tryz.underlying59 rfl info_Frac rfl ⟨rfl,?_⟩
 ·exact vbc HG4 (vbc HG3 (vbc HG2 (vbc HG1 vbb)))
 ·exact gcc HG4 (gcc HG3 (gcc HG2 (gcc HG1 gzz)))
set_option maxRecDepth 20000 in
set_option maxHeartbeats 4000000 in
theorem Mul_far0 (n:Int) (m:Nat) (n':Int) (m':Nat) (w:World) (hn:wl (sz n)≤100000000000) (hm:wl (m+1)≤100000000000) (hn':wl (sz n')≤100000000000) (hm':wl (m'+1)≤100000000000) (h0:m=0) (h0':m'≠0):Calls Tryz.prog 37 #[frV n m,frV n' m'] w (Ret w (frV (lwN (n*n') ((m+1)*(m'+1))) (lwD (n*n') ((m+1)*(m'+1))))):=by
 have hW:=Lh (fr_Whole n m)
 rw [decide_eq_true h0]at hW
 have hW':=Lh (fr_Whole n' m')
 rw [decide_eq_false h0']at hW'
 clear h0'
 have b1:=wl_sz_mul n n'
 have b4:=wl_mul (m+1) (m'+1)
 have hM1:=Lh (fun w=>ints_Mul n n' w (by omega) (by omega))
 have hD:=Lh (fun w=>fr_den n m w (by have:=wl_le_succ m;omega))
 have hD':=Lh (fun w=>fr_den n' m' w (by have:=wl_le_succ m';omega))
 have hM:=Lh (fun w=>nats_Mul (m+1) (m'+1) w (by omega) (by omega))
 have hL:=Lh (fun w=>fr_lowest (n*n') ((m+1)*(m'+1)) w (by omega) (by omega) (Nat.mul_pos (by omega) (by omega)))
 clear hn hn' hm hm' b1 b4 h0
 generalize lwN (n*n') ((m+1)*(m'+1))=rn at *
 generalize lwD (n*n') ((m+1)*(m'+1))=rd at *
 generalize n*n'=x at *
 generalize (m+1)*(m'+1)=d at *
 generalize m+1=d1 at *
 generalize m'+1=d2 at *
 unfold frV
 go_enter Tryz.func37,Tryz.ntmps37
 go_wp2_with fail
 (refine rtt (hW.out _) fun w1 hsz1 hc1 hf1 HG1=>?_;(try simp at hsz1);have hz1_0:w.heap.size<w1.heap.size:=(by omega);have hz1_1:w.heap.size+1<w1.heap.size:=(by omega);have hz1_2:w.heap.size+1+1<w1.heap.size:=(by omega))
 go_wp2_with fail
 (refine rtt (hW'.out _) fun w9 hsz9 hc9 hf9 HG9=>?_;(try simp at hsz9);have hz9_0:w.heap.size<w9.heap.size:=(by omega);have hz9_1:w.heap.size+1<w9.heap.size:=(by omega);have hz9_2:w.heap.size+1+1<w9.heap.size:=(by omega))
 go_wp2_with fail
 go_region_held3 (fun w'=>w'.cell? ⟨w.heap.size,0,none⟩=some (nA n)∧w'.cell? ⟨w.heap.size,1,none⟩=some (nB n)∧w'.cell? ⟨w.heap.size,2,none⟩=some (nC n)∧w'.cell? ⟨w.heap.size,3,none⟩=some (nD m)∧w'.cell? ⟨w.heap.size,4,none⟩=some (nE m)∧w'.cell? ⟨w.heap.size+1,0,none⟩=some (nA n')∧w'.cell? ⟨w.heap.size+1,1,none⟩=some (nB n')∧w'.cell? ⟨w.heap.size+1,2,none⟩=some (nC n')∧w'.cell? ⟨w.heap.size+1,3,none⟩=some (nD m')∧w'.cell? ⟨w.heap.size+1,4,none⟩=some (nE m'))
  (first|(simp [go_sem, *];done))
  (first|((go_at_call 79;refine(hM1.out _).mono ?_;rintro e w3 ⟨rfl,hg3⟩;(try (with_reducible replace hg3:=Gr.of_drew hg3));have hsz3:=hg3.size;(try simp at hsz3);have hz3_0:w.heap.size<w3.heap.size:=(by omega);have hz3_1:w.heap.size+1<w3.heap.size:=(by omega);have hz3_2:w.heap.size+1+1<w3.heap.size:=(by omega);obtain ⟨hc3,hf3⟩:=hg3.cells;have HG3:=Lh hg3;clear hg3))|((go_at_call_of 82 (Value.agg #[nA n,nB n,nC n,nD m,nE m]);refine(hD.out _).mono ?_;rintro e w7 ⟨rfl,hg7⟩;(try (with_reducible replace hg7:=Gr.of_drew hg7));have hsz7:=hg7.size;(try simp at hsz7);have hz7_0:w.heap.size<w7.heap.size:=(by omega);have hz7_1:w.heap.size+1<w7.heap.size:=(by omega);have hz7_2:w.heap.size+1+1<w7.heap.size:=(by omega);obtain ⟨hc7,hf7⟩:=hg7.cells;have HG7:=Lh hg7;clear hg7))|((go_at_call_of 82 (Value.agg #[nA n',nB n',nC n',nD m',nE m']);refine(hD'.out _).mono ?_;rintro e w8 ⟨rfl,hg8⟩;(try (with_reducible replace hg8:=Gr.of_drew hg8));have hsz8:=hg8.size;(try simp at hsz8);have hz8_0:w.heap.size<w8.heap.size:=(by omega);have hz8_1:w.heap.size+1<w8.heap.size:=(by omega);have hz8_2:w.heap.size+1+1<w8.heap.size:=(by omega);obtain ⟨hc8,hf8⟩:=hg8.cells;have HG8:=Lh hg8;clear hg8))|((go_at_call 81;refine(hM.out _).mono ?_;rintro e w10 ⟨rfl,hg10⟩;(try (with_reducible replace hg10:=Gr.of_drew hg10));have hsz10:=hg10.size;(try simp at hsz10);have hz10_0:w.heap.size<w10.heap.size:=(by omega);have hz10_1:w.heap.size+1<w10.heap.size:=(by omega);have hz10_2:w.heap.size+1+1<w10.heap.size:=(by omega);obtain ⟨hc10,hf10⟩:=hg10.cells;have HG10:=Lh hg10;clear hg10))|((go_at_call 80;refine(hL.out _).mono ?_;rintro e w11 ⟨rfl,hg11⟩;(try (with_reducible replace hg11:=Gr.of_drew hg11));have hsz11:=hg11.size;(try simp at hsz11);have hz11_0:w.heap.size<w11.heap.size:=(by omega);have hz11_1:w.heap.size+1<w11.heap.size:=(by omega);have hz11_2:w.heap.size+1+1<w11.heap.size:=(by omega);obtain ⟨hc11,hf11⟩:=hg11.cells;have HG11:=Lh hg11;clear hg11)))
 go_wp2
 refine ret_row (g:=w.heap.size+1+1) Tryz.results37 rfl (VB.set (cs:= [zU,zS,.bool false,zU,zS]) ?_ (frC rn rd) rfl) Tryz.underlying59 rfl info_Frac rfl ⟨rfl,?_⟩
 ·exact vbc HG11 (vbc HG10 (vbc HG8 (vbc HG7 (vbc HG3 (vbc HG9 (vbc HG1 vbb))))))
 ·exact gcc HG11 (gcc HG10 (gcc HG8 (gcc HG7 (gcc HG3 (gcc HG9 (gcc HG1 gzz))))))
set_option maxRecDepth 20000 in
set_option maxHeartbeats 4000000 in
theorem Mul_far1 (n:Int) (m:Nat) (n':Int) (m':Nat) (w:World) (hn:wl (sz n)≤100000000000) (hm:wl (m+1)≤100000000000) (hn':wl (sz n')≤100000000000) (hm':wl (m'+1)≤100000000000) (h0:m≠0):Calls Tryz.prog 37 #[frV n m,frV n' m'] w (Ret w (frV (lwN (n*n') ((m+1)*(m'+1))) (lwD (n*n') ((m+1)*(m'+1))))):=by
 have hW:=Lh (fr_Whole n m)
 rw [decide_eq_false h0]at hW
 have hW':=Lh (fr_Whole n' m')
 have b1:=wl_sz_mul n n'
 have b4:=wl_mul (m+1) (m'+1)
 have hM1:=Lh (fun w=>ints_Mul n n' w (by omega) (by omega))
 have hD:=Lh (fun w=>fr_den n m w (by have:=wl_le_succ m;omega))
 have hD':=Lh (fun w=>fr_den n' m' w (by have:=wl_le_succ m';omega))
 have hM:=Lh (fun w=>nats_Mul (m+1) (m'+1) w (by omega) (by omega))
 have hL:=Lh (fun w=>fr_lowest (n*n') ((m+1)*(m'+1)) w (by omega) (by omega) (Nat.mul_pos (by omega) (by omega)))
 clear hn hn' hm hm' b1 b4 h0
 generalize lwN (n*n') ((m+1)*(m'+1))=rn at *
 generalize lwD (n*n') ((m+1)*(m'+1))=rd at *
 generalize n*n'=x at *
 generalize (m+1)*(m'+1)=d at *
 generalize m+1=d1 at *
 generalize m'+1=d2 at *
 unfold frV
 go_enter Tryz.func37,Tryz.ntmps37
 go_wp2_with fail
 (refine rtt (hW.out _) fun w1 hsz1 hc1 hf1 HG1=>?_;(try simp at hsz1);have hz1_0:w.heap.size<w1.heap.size:=(by omega);have hz1_1:w.heap.size+1<w1.heap.size:=(by omega);have hz1_2:w.heap.size+1+1<w1.heap.size:=(by omega))
 go_wp2_with fail
 go_region_held3 (fun w'=>w'.cell? ⟨w.heap.size,0,none⟩=some (.int .u64 (lowN (sz n)))∧w'.cell? ⟨w.heap.size,1,none⟩=some (.string (bigS (sz n)))∧w'.cell? ⟨w.heap.size,2,none⟩=some (.bool (ng n))∧w'.cell? ⟨w.heap.size,3,none⟩=some (.int .u64 (lowN m))∧w'.cell? ⟨w.heap.size,4,none⟩=some (.string (bigS m))∧w'.cell? ⟨w.heap.size+1,0,none⟩=some (.int .u64 (lowN (sz n')))∧w'.cell? ⟨w.heap.size+1,1,none⟩=some (.string (bigS (sz n')))∧w'.cell? ⟨w.heap.size+1,2,none⟩=some (.bool (ng n'))∧w'.cell? ⟨w.heap.size+1,3,none⟩=some (.int .u64 (lowN m'))∧w'.cell? ⟨w.heap.size+1,4,none⟩=some (.string (bigS m')))
  (first|(simp [go_sem, *];done))
  (first|((go_at_call 79;refine(hM1.out _).mono ?_;rintro e w3 ⟨rfl,hg3⟩;(try (with_reducible replace hg3:=Gr.of_drew hg3));have hsz3:=hg3.size;(try simp at hsz3);have hz3_0:w.heap.size<w3.heap.size:=(by omega);have hz3_1:w.heap.size+1<w3.heap.size:=(by omega);have hz3_2:w.heap.size+1+1<w3.heap.size:=(by omega);obtain ⟨hc3,hf3⟩:=hg3.cells;have HG3:=Lh hg3;clear hg3))|((go_at_call_of 82 (Value.agg #[.int .u64 (lowN (sz n)),.string (bigS (sz n)),.bool (ng n),.int .u64 (lowN m),.string (bigS m)]);refine(hD.out _).mono ?_;rintro e w7 ⟨rfl,hg7⟩;(try (with_reducible replace hg7:=Gr.of_drew hg7));have hsz7:=hg7.size;(try simp at hsz7);have hz7_0:w.heap.size<w7.heap.size:=(by omega);have hz7_1:w.heap.size+1<w7.heap.size:=(by omega);have hz7_2:w.heap.size+1+1<w7.heap.size:=(by omega);obtain ⟨hc7,hf7⟩:=hg7.cells;have HG7:=Lh hg7;clear hg7))|((go_at_call_of 82 (Value.agg #[.int .u64 (lowN (sz n')),.string (bigS (sz n')),.bool (ng n'),.int .u64 (lowN m'),.string (bigS m')]);refine(hD'.out _).mono ?_;rintro e w8 ⟨rfl,hg8⟩;(try (with_reducible replace hg8:=Gr.of_drew hg8));have hsz8:=hg8.size;(try simp at hsz8);have hz8_0:w.heap.size<w8.heap.size:=(by omega);have hz8_1:w.heap.size+1<w8.heap.size:=(by omega);have hz8_2:w.heap.size+1+1<w8.heap.size:=(by omega);obtain ⟨hc8,hf8⟩:=hg8.cells;have HG8:=Lh hg8;clear hg8))|((go_at_call 81;refine(hM.out _).mono ?_;rintro e w10 ⟨rfl,hg10⟩;(try (with_reducible replace hg10:=Gr.of_drew hg10));have hsz10:=hg10.size;(try simp at hsz10);have hz10_0:w.heap.size<w10.heap.size:=(by omega);have hz10_1:w.heap.size+1<w10.heap.size:=(by omega);have hz10_2:w.heap.size+1+1<w10.heap.size:=(by omega);obtain ⟨hc10,hf10⟩:=hg10.cells;have HG10:=Lh hg10;clear hg10))|((go_at_call 80;refine(hL.out _).mono ?_;rintro e w11 ⟨rfl,hg11⟩;(try (with_reducible replace hg11:=Gr.of_drew hg11));have hsz11:=hg11.size;(try simp at hsz11);have hz11_0:w.heap.size<w11.heap.size:=(by omega);have hz11_1:w.heap.size+1<w11.heap.size:=(by omega);have hz11_2:w.heap.size+1+1<w11.heap.size:=(by omega);obtain ⟨hc11,hf11⟩:=hg11.cells;have HG11:=Lh hg11;clear hg11)))
 go_wp2
 refine ret_row (g:=w.heap.size+1+1) Tryz.results37 rfl (VB.set (cs:= [.int .u64 0,.string ⟨#[]⟩,.bool false,.int .u64 0,.string ⟨#[]⟩]) ?_ (frC rn rd) rfl) Tryz.underlying59 rfl info_Frac rfl ⟨rfl,?_⟩
 ·(with_reducible (repeat' (first|(refine VB.new' ?_;exact(by first|omega|(simp;done)|(simp;omega)))|apply VB.put2|apply VB.put3|apply VB.put5|refine VB.drew ?_|refine VB.far ?_ ?_ _|refine VB.alloc ?_ _|refine VB.gr ?_ HG11.out ?_|refine VB.gr ?_ HG10.out ?_|refine VB.gr ?_ HG8.out ?_|refine VB.gr ?_ HG7.out ?_|refine VB.gr ?_ HG3.out ?_|refine VB.gr ?_ HG9.out ?_|refine VB.gr ?_ HG1.out ?_|omega|(simp;done)|(simp;omega))))
 ·(with_reducible (repeat' (first|exact Gr.refl _ _|refine Gr.drew ?_|refine Gr.setCell ?_ ?_ _|refine Gr.alloc ?_ ?_ _|refine Gr.trans ?_ (Gr.mono HG11.out ?_)|refine Gr.trans ?_ (Gr.mono HG10.out ?_)|refine Gr.trans ?_ (Gr.mono HG8.out ?_)|refine Gr.trans ?_ (Gr.mono HG7.out ?_)|refine Gr.trans ?_ (Gr.mono HG3.out ?_)|refine Gr.trans ?_ (Gr.mono HG9.out ?_)|refine Gr.trans ?_ (Gr.mono HG1.out ?_)|omega|(simp;done)|(simp;omega))))
set_option maxRecDepth 20000 in
set_option maxHeartbeats 4000000 in
theorem Cmp_same (n:Int) (m:Nat) (n':Int) (w:World) (hn:wl (sz n)≤100000000000) (hn':wl (sz n')≤100000000000):Calls Tryz.prog 179 #[frV n m,frV n' m] w (Ret w (.int .i64 (sgnI (n - n')))):=by
 have hq:=nat_eq m m
 rw [decide_eq_true rfl]at hq
 have hA:=Lh (fun w=>ints_Cmp n n' w (by omega) (by omega))
 clear hn hn'
 generalize sgnI (n - n')=r at *
 unfold frV
 go_enter Tryz.func179,Tryz.ntmps179
 go_wp2_with fail
 (refine rtu (hA.out _) fun w1 hsz1 hl1 hc1 hf1 HG1=>?_;(try simp at hsz1))
 go_wp2
 go_ret
 exact⟨rfl,by exact gcc HG1 gzz⟩
set_option maxRecDepth 20000 in
set_option maxHeartbeats 4000000 in
theorem Cmp_far (n:Int) (m:Nat) (n':Int) (m':Nat) (w:World) (hn:wl (sz n)≤100000000000) (hm:wl (m+1)≤100000000000) (hn':wl (sz n')≤100000000000) (hm':wl (m'+1)≤100000000000) (hne:m≠m'):Calls Tryz.prog 179 #[frV n m,frV n' m'] w (Ret w (.int .i64 (sgnI (n*((m'+1:Nat):Int) - n'*((m+1:Nat):Int))))):=by
 have hq:=nat_eq m m'
 rw [decide_eq_false hne]at hq
 have b1:=wl_sz_mul n ((m'+1:Nat):Int)
 have b2:=wl_sz_mul n' ((m+1:Nat):Int)
 rw [sz_nat]at b1 b2
 have hS':=Lh (fun w=>fr_signed n' m' w (by have:=wl_le_succ m';omega))
 have hM1:=Lh (fun w=>ints_Mul n ((m'+1:Nat):Int) w (by omega) (by rw [sz_nat];omega))
 have hS:=Lh (fun w=>fr_signed n m w (by have:=wl_le_succ m;omega))
 have hM2:=Lh (fun w=>ints_Mul n' ((m+1:Nat):Int) w (by omega) (by rw [sz_nat];omega))
 have hA:=Lh (fun w=>ints_Cmp (n*((m'+1:Nat):Int)) (n'*((m+1:Nat):Int)) w (by omega) (by omega))
 clear hn hn' hm hm' b1 b2 hne
 generalize sgnI (n*((m'+1:Nat):Int) - n'*((m+1:Nat):Int))=r at *
 generalize n*((m'+1:Nat):Int)=x1 at *
 generalize n'*((m+1:Nat):Int)=x2 at *
 generalize ((m+1:Nat):Int)=i1 at *
 generalize ((m'+1:Nat):Int)=i2 at *
 unfold frV
 go_enter Tryz.func179,Tryz.ntmps179
 go_wp2_with fail
 go_region_held3 (fun w'=>w'.cell? ⟨w.heap.size,0,none⟩=some (nA n)∧w'.cell? ⟨w.heap.size,1,none⟩=some (nB n)∧w'.cell? ⟨w.heap.size,2,none⟩=some (nC n)∧w'.cell? ⟨w.heap.size,3,none⟩=some (nD m)∧w'.cell? ⟨w.heap.size,4,none⟩=some (nE m)∧w'.cell? ⟨w.heap.size+1,0,none⟩=some (nA n')∧w'.cell? ⟨w.heap.size+1,1,none⟩=some (nB n')∧w'.cell? ⟨w.heap.size+1,2,none⟩=some (nC n')∧w'.cell? ⟨w.heap.size+1,3,none⟩=some (nD m')∧w'.cell? ⟨w.heap.size+1,4,none⟩=some (nE m'))
  (first|(simp [go_sem, *];done))
  (first|((go_at_call_of 85 (Value.agg #[nA n',nB n',nC n',nD m',nE m']);refine(hS'.out _).mono ?_;rintro e w2 ⟨rfl,hg2⟩;(try (with_reducible replace hg2:=Gr.of_drew hg2));have hsz2:=hg2.size;(try simp at hsz2);have hz2_0:w.heap.size<w2.heap.size:=(by omega);have hz2_1:w.heap.size+1<w2.heap.size:=(by omega);obtain ⟨hc2,hf2⟩:=hg2.cells;have HG2:=Lh hg2;clear hg2))|((go_at_call_of 79 (Value.agg #[nA n,nB n,nC n]);refine(hM1.out _).mono ?_;rintro e w3 ⟨rfl,hg3⟩;(try (with_reducible replace hg3:=Gr.of_drew hg3));have hsz3:=hg3.size;(try simp at hsz3);have hz3_0:w.heap.size<w3.heap.size:=(by omega);have hz3_1:w.heap.size+1<w3.heap.size:=(by omega);obtain ⟨hc3,hf3⟩:=hg3.cells;have HG3:=Lh hg3;clear hg3))|((go_at_call_of 85 (Value.agg #[nA n,nB n,nC n,nD m,nE m]);refine(hS.out _).mono ?_;rintro e w4 ⟨rfl,hg4⟩;(try (with_reducible replace hg4:=Gr.of_drew hg4));have hsz4:=hg4.size;(try simp at hsz4);have hz4_0:w.heap.size<w4.heap.size:=(by omega);have hz4_1:w.heap.size+1<w4.heap.size:=(by omega);obtain ⟨hc4,hf4⟩:=hg4.cells;have HG4:=Lh hg4;clear hg4))|((go_at_call_of 79 (Value.agg #[nA n',nB n',nC n']);refine(hM2.out _).mono ?_;rintro e w5 ⟨rfl,hg5⟩;(try (with_reducible replace hg5:=Gr.of_drew hg5));have hsz5:=hg5.size;(try simp at hsz5);have hz5_0:w.heap.size<w5.heap.size:=(by omega);have hz5_1:w.heap.size+1<w5.heap.size:=(by omega);obtain ⟨hc5,hf5⟩:=hg5.cells;have HG5:=Lh hg5;clear hg5))|((go_at_call 206;refine(hA.out _).mono ?_;rintro e w6 ⟨rfl,hg6⟩;(try (with_reducible replace hg6:=Gr.of_drew hg6));have hsz6:=hg6.size;(try simp at hsz6);have hz6_0:w.heap.size<w6.heap.size:=(by omega);have hz6_1:w.heap.size+1<w6.heap.size:=(by omega);obtain ⟨hc6,hf6⟩:=hg6.cells;have HG6:=Lh hg6;clear hg6)))
 go_wp2
 go_ret
 exact⟨rfl,by exact gcc HG6 (gcc HG5 (gcc HG4 (gcc HG3 (gcc HG2 gzz))))⟩
end Go.Proofs.YtfgmdhjmgdccdaaGreat
