/-
  Part 3 of the proof: NatB NatC NatD.
-/
import Derived.Test.YtfgmdhjmgdccdaaGreatJ2
import Derived.Laws.BytesArg
import Derived.Laws.StructEq
import Derived.Test.YtfgmdhjmgdccdaaGreatShelf
import Derived.Shelf.Spec.BitsCarry
set_option linter.unusedSimpArgs false
set_option linter.unusedVariables false
set_option maxHeartbeats 8000000
namespace Go.Proofs.YtfgmdhjmgdccdaaGreat
open Go.RowKit Gus
theorem info_u8:(Tryz.prog.info? 5).map (fun i=>(i.zero,i.size,i.bytes))=some (some (.int .u8 0),1,1):=by kernel_rfl
theorem or_word {f:Nat→Nat} {k:Nat} (hk:k<2) (hd:∀i,i≤k→f i<4294967296):
  bits .or .u64 ((vf f k:Nat):Int) (IntKind.u64.wrap (((f k:Nat):Int)*2 ^ (32*k)))=((vf f (k+1):Nat):Int):=by
 rw [IntKind.wrap_u64]
 have e1:vf f (k+1)=f k*4294967296 ^ k+vf f k:=by
  show vf f k+f k*4294967296 ^ k=_
  omega
 have h1:vf f k<4294967296 ^ k:=vf_lt fun i hi=>hd i (by omega)
 have h2:=hd k (Nat.le_refl _)
 have e2:(2:Nat) ^ (32*k)=4294967296 ^ k:=by rw [Nat.pow_mul]
 have hp:((2:Int) ^ (32*k))=((4294967296 ^ k:Nat):Int):=by rw [←e2];simp
 have hb:4294967296 ^ k*4294967296≤18446744073709551616:=by
  have:4294967296 ^ (k+1)≤4294967296 ^ 2:=Nat.pow_le_pow_right (by omega) (by omega)
  rw [pow_succ32]at this;omega
 have h3:f k*4294967296 ^ k+4294967296 ^ k≤18446744073709551616:=by
  have:(f k+1)*4294967296 ^ k≤4294967296*4294967296 ^ k:=Nat.mul_le_mul_right _ h2
  rw [Nat.add_mul,Nat.one_mul]at this
  rw [Nat.mul_comm]at hb
  omega
 rw [hp,←Int.natCast_mul,e1]
 have hz:f k*4294967296 ^ k % 2 ^ (32*k)=0:=by rw [e2];exact Nat.mul_mod_left _ _
 have hlt:vf f k<2 ^ (32*k):=by rw [e2];exact h1
 have hj:=nat_join (32*k) (f k*4294967296 ^ k) (vf f k) hz hlt
 generalize f k*4294967296 ^ k=y at *
 generalize vf f k=x at *
 have hpos:0<4294967296 ^ k:=pow_pos32 k
 have e4:((y:Nat):Int) % 18446744073709551616=(y:Int):=by omega
 rw [e4,u64_or_nat _ _ (by omega) (by omega),Nat.or_comm,hj]
def byteL (n k:Nat):List Int:=(List.range (4*k)).map fun i=>((byteN n i:Nat):Int)
theorem strOf_byteL {n:Nat} (hn:18446744073709551616≤n):strOfNums (byteL n (wl n))=bigS n:=by
 unfold strOfNums byteL bigS
 rw [if_neg (by omega)]
 simp
set_option maxHeartbeats 400000 in
theorem nats_of_small {B:Nat} {A:Option Addr} {n cap:Nat} {f:Nat→Nat} {w:World} (hd:∀i,i<n→f i<4294967296) (hn:n≤1099511627776) (h:U32 B w (.slice A n cap) n f) (hm:wl (vf f n)≤2):
  Calls Tryz.prog 123 #[.slice A n cap] w (Ret w (natV (vf f n))):=by
 have hlt:vf f n<18446744073709551616:=by have:=(wl_le_iff _ 2).1 hm;omega
 have hN:=dig_vf hd
 have hle:wl (vf f n)≤n:=(wl_le_iff _ _).2 (vf_lt hd)
 have h':U32 B (w.alloc (.cells #[.int .u64 0,.string ⟨#[]⟩] 53)) (.slice A n cap) n f:=h.gr ((Gr.refl _ _).alloc (Nat.le_refl _) _) (Nat.le_refl _)
 have H:=Lh h
 have H':=Lh h'
 have HD:=Lh hd
 have HN:=Lh hN
 have HL:=Lh hlt
 clear h h' hd hN hlt
 go_enter Tryz.func123,Tryz.ntmps123
 go_wp2_with fail
 refine(nats_cut HD.out hn H'.out).mono ?_
 rintro e w' ⟨rfl,rfl⟩
 go_wp2
 go_loop [3,16] (fun s i=> ∃k:Nat,k≤wl (vf f n)∧i= .int .i64 k∧s= .int .u64 (vf f k)) (fun _ i=>wl (vf f n) - (intOf i).toNat)
 case atStart=>exact⟨0,Nat.zero_le _,rfl,rfl⟩
 case round=>
  obtain ⟨k,hk,rfl,rfl⟩:=hrel
  by_cases hlt:k<wl (vf f n)
  ·obtain ⟨g,o,rfl,hg1,hg2,hck,_⟩:=H.out.at_ (k:=k) (by omega)
   have hdk:=HD.out k (by omega)
   have hor:=or_word (f:=f) (k:=k) (by omega) (fun i hi=>HD.out i (by omega))
   have HO:=Lh hor
   clear hor
   go_wp2
   go_round
   case rel=>exact⟨k+1,by omega,by go_num,by rw [HO.out]⟩
   case measure=>simp [intOf];omega
  ·obtain rfl:k=wl (vf f n):=by omega
   have hfin:vf f (wl (vf f n))=vf f n:=(vf_zero_above n hle (fun i h1 h2=>by rw [←HN.out i h2];exact dig_of_ge h1)).symm
   have HF:=Lh hfin
   clear hfin
   go_wp2
   rw [HF.out]
   refine bodyPost_ret (v:= .agg #[.int .u64 (vf f n),.string ⟨#[]⟩]) (by simp [results,Tryz.results123,go_sem]) rfl ⟨?_,(Gr.refl _ _).alloc (Nat.le_refl _) _⟩
   rw [natV,lowN_small HL.out,bigS_small HL.out]
theorem byte_cells (N k:Nat):(byteL N (k+1)).map (Value.int .u8)=(byteL N k).map (Value.int .u8)++
  [.int .u8 (((dig N k:Nat):Int) % 256),.int .u8 (((dig N k:Nat):Int) / 256 % 256),.int .u8 (((dig N k:Nat):Int) / 65536 % 256),.int .u8 (((dig N k:Nat):Int) / 16777216)]:=by
 have h:=word_of_bytes N k
 have h0:=byteN_lt N (4*k)
 have h1:=byteN_lt N (4*k+1)
 have h2:=byteN_lt N (4*k+2)
 have h3:=byteN_lt N (4*k+3)
 unfold byteL
 rw [show 4*(k+1)=4*k+1+1+1+1 by omega]
 simp only [List.range_succ,List.map_append,List.map_cons,List.map_nil,List.append_assoc,List.cons_append,List.nil_append]
 congr 1
 rw [←h]
 congr 1
 ·congr 1;omega
 congr 1
 ·congr 1;omega
 congr 1
 ·congr 1;omega
 congr 1
 ·congr 1;omega
structure OfAt (w wr:World) (N k:Nat) (b:Value):Prop where
 own:wr.ownsRow (w.heap.size+1) 5 1 b (4*k) ((byteL N k).map (Value.int .u8))
 gr:Gr w.heap.size w wr
 size:w.heap.size<wr.heap.size
 c0:wr.cell? ⟨w.heap.size,0,none⟩=some (.int .u64 0)
 c1:wr.cell? ⟨w.heap.size,1,none⟩=some (.string ⟨#[]⟩)
 f0:wr.frozen? ⟨w.heap.size,0,none⟩=false
 f1:wr.frozen? ⟨w.heap.size,1,none⟩=false
theorem OfAt.start (w:World) (N m:Nat) (hm:4*m≤maxLen):
  OfAt w ((w.alloc (.cells #[.int .u64 0,.string ⟨#[]⟩] 53)).alloc (.cells (madeCells #[.int .u8 0] (4*m)) 5)) N 0 (.slice (some ⟨w.heap.size+1,0,none⟩) 0 (4*m)):=by
 have h1:=World.ownsRow_made (base:=w.heap.size+1) (e:=5) (size:=1) (w.alloc (.cells #[.int .u64 0,.string ⟨#[]⟩] 53)) (madeCells #[.int .u8 0] (4*m)) (4*m) (by simp) hm (by simp [size_madeCells])
 refine⟨?_,((Gr.refl _ _).alloc (Nat.le_refl _) _).alloc (by simp) _,by simp;omega,by simp [go_sem],by simp [go_sem],by simp [go_sem],by simp [go_sem]⟩
 simpa [byteL] using h1
theorem byteL_length (N k:Nat):(byteL N k).length=4*k:=by simp [byteL]
theorem OfAt.step {w wr w1:World} {N k:Nat} {b b1:Value} (h:OfAt w wr N k b) {o:Obj} {xs:List Value}
  (ha:Apd (w.heap.size+1) 5 1 (wr.alloc o) w1 b b1 (4*k+4) xs) (hx:xs=(byteL N (k+1)).map (Value.int .u8)):OfAt w w1 N (k+1) b1:=by
 have hown:=h.own.alloc o
 have hlt:=hown.lt
 have hg:Gr w.heap.size w w1:=ha.gr (h.gr.alloc h.gr.size o) (by have:=h.gr.size;simp;omega) (fun k hk=>by have:=hlt k hk;omega)
 have hb:w1.heap[w.heap.size]? =wr.heap[w.heap.size]? :=by
  refine(ha.by_.block w.heap.size (by have:=h.size;simp;omega) (fun e=>by have:=hlt _ e.symm;omega)).trans ?_
  exact Below.heap_alloc _ _ _ h.size
 refine⟨by subst hx;exact ha.own,hg,?_,?_,?_,?_,?_⟩
 ·have:=ha.by_.size;have:=h.size;simp at *;omega
 ·exact(World.cell?_of_block (a:=⟨w.heap.size,0,none⟩) hb).trans h.c0
 ·exact(World.cell?_of_block (a:=⟨w.heap.size,1,none⟩) hb).trans h.c1
 ·exact(World.frozen?_of_block (a:=⟨w.heap.size,0,none⟩) hb).trans h.f0
 ·exact(World.frozen?_of_block (a:=⟨w.heap.size,1,none⟩) hb).trans h.f1
set_option maxRecDepth 100000 in
set_option maxHeartbeats 400000 in
theorem nats_of_big {B:Nat} {A:Option Addr} {n cap:Nat} {f:Nat→Nat} {w:World} (hd:∀i,i<n→f i<4294967296) (hn:n≤1099511627776) (h:U32 B w (.slice A n cap) n f) (hm:3≤wl (vf f n)):
  Calls Tryz.prog 123 #[.slice A n cap] w (Ret w (natV (vf f n))):=by
 have hge:18446744073709551616≤vf f n:=by
  rcases Nat.lt_or_ge (vf f n) 18446744073709551616 with h|h
  ·have:=wl_lt64 h;omega
  ·exact h
 have hN:=dig_vf hd
 have hle:wl (vf f n)≤n:=(wl_le_iff _ _).2 (vf_lt hd)
 have h':U32 B (w.alloc (.cells #[.int .u64 0,.string ⟨#[]⟩] 53)) (.slice A n cap) n f:=h.gr ((Gr.refl _ _).alloc (Nat.le_refl _) _) (Nat.le_refl _)
 obtain ⟨i0,hi,hz0,hz1,hz2⟩:=info_parts info_u8
 obtain ⟨m,hmm⟩:∃m,m=wl (vf f n):=⟨_,rfl⟩
 have hmk:∀W:World,(Instr.makeSlice 22 (.int .i64 0) (.int .i64 (4*(m:Int)))).run Tryz.prog W =
   .ok (.slice (some ⟨W.heap.size,0,none⟩) 0 (4*m)) (W.alloc (.cells (madeCells #[.int .u8 0] (4*m)) 5)):=by
  intro W
  have e:(4*(m:Int))=((4*m:Nat):Int):=by omega
  have e0:(0:Int)=((0:Nat):Int):=rfl
  rw [e,e0,run_make_rowN 22 5 i0 _ Tryz.underlying22 hi hz0 .i64 .i64 0 (4*m) (Nat.zero_le _) (by rw [hz2];omega) (by omega) W,hz1,Nat.mul_one]
  rfl
 have hst:=OfAt.start w (vf f n) m (by unfold maxLen;omega)
 have H:=Lh h
 have H':=Lh h'
 have HD:=Lh hd
 have HN:=Lh hN
 have HG:=Lh hge
 have HM:=Lh hmm
 have HS:=Lh hst
 have HI:=Lh (And.intro hi (And.intro hz0 (And.intro hz1 hz2)))
 have hm3:3≤m:=by omega
 have hml:m≤n:=by omega
 clear h h' hd hN hge hm hle hst hi hz0 hz1 hz2
 go_enter Tryz.func123,Tryz.ntmps123
 go_wp2_with fail
 refine(nats_cut HD.out hn H'.out).mono ?_
 rintro e w' ⟨rfl,rfl⟩
 rw [←HM.out]
 clear hmm
 go_wp2
 go_loopw [6,37] (fun b i wr=> ∃k:Nat,k≤m∧i= .int .i64 k∧OfAt w wr (vf f n) k b) (fun _ i _=>m - (intOf i).toNat)
 case atStart=>exact⟨0,Nat.zero_le _,rfl,HS.out⟩
 case round=>
  obtain ⟨k,hk,rfl,hat⟩:=hrel
  by_cases hlt:k<m
  ·obtain ⟨g,o,rfl,hg1,hg2,hck,_⟩:=H.out.at_ (k:=k) (by omega)
   have hcw:=(hat.gr.cell (p:=⟨g,o+k,none⟩) hg2).trans hck
   have hdk:=HD.out k (by omega)
   have HA:=Lh hat
   have HX:=Lh (HN.out k (by omega))
   clear hck hat
   go_wp2_with (at_builtin;refine wpList_app _ rfl _ _ 22 rfl (w.heap.size+1) 5 i0 _ 1 1 Tryz.underlying22 HI.out.1 HI.out.2.1 HI.out.2.2.1 HI.out.2.2.2 rfl (by decide) _ _ _ rfl (HA.out.own.alloc _) ⟨wr.heap.size,0,none⟩ 4 4 [.int .u8 (((f k:Nat):Int) % 256),.int .u8 (((f k:Nat):Int) / 256 % 256),.int .u8 (((f k:Nat):Int) / 65536 % 256),.int .u8 (((f k:Nat):Int) / 16777216)] rfl rfl ?c1 ?c2 ?c3 ?c4 ?c5 ?_)
   case c1=>
    intro j u hj
    match j,hj with
    | 0,hj=>simp at hj;subst hj;simp [Addr.add]
    | 1,hj=>simp at hj;subst hj;simp [Addr.add]
    | 2,hj=>simp at hj;subst hj;simp [Addr.add]
    | 3,hj=>simp at hj;subst hj;simp [Addr.add]
   case c2=>intro u hu;simp at hu;rcases hu with rfl|rfl|rfl|rfl<;>rfl
   case c3=>unfold maxLen;omega
   case c4=>omega
   case c5=>have:=HA.out.size;simp;omega
   intro v' w1 hap
   have hst:=HA.out.step hap (by rw [byte_cells,HX.out])
   have HT:=Lh hst
   clear hap hst
   go_wp2
   go_roundw
   case rel=>exact⟨k+1,by omega,by go_num,HT.out⟩
   case measure=>simp [intOf];omega
  ·obtain rfl:k=m:=by omega
   have hown:=hat.own
   have hsz:(4*k:Nat)≠0:=by omega
   rcases hown.2 with⟨_,h0⟩|⟨g,cp,cur,rfl,hg,hh,hnc,_,_,_⟩
   ·exact absurd h0 hsz
   have hcv:=run_convert_bytes_arg (P:=Tryz.prog) wr 22 5 Tryz.underlying22 Tryz.underlying5 g 0 (4*k) cp (byteL (vf f n) k) (byteL_length _ _)
    (fun i hi=>by
     rw [Nat.zero_add,hown.cellAt i (by omega),List.getElem?_map,List.getD_eq_getElem?_getD,List.getElem?_eq_getElem (by rw [byteL_length];exact hi)]
     rfl) 9 Tryz.underlying9
   have e:=HM.out
   have hstr:strOfNums (byteL (vf f n) k)=bigS (vf f n):=by rw [e];exact strOf_byteL HG.out
   rw [hstr]at hcv
   have c0:=hat.c0
   have c1:=hat.c1
   have f0:=hat.f0
   have f1:=hat.f1
   have HA:=Lh hat
   clear hat hown hstr e hsz hh
   go_wp2
   have hb:=lowN_big HG.out
   obtain ⟨_,_,e0,e1⟩:=set2 (.int .u64 0) (.string (bigS (vf f n))) c0 c1
   refine bodyPost_ret (v:= .agg #[.int .u64 0,.string (bigS (vf f n))]) (by simp [results,Tryz.results123,go_sem,e0,e1]) rfl ⟨?_,?_⟩
   ·rw [natV,hb];rfl
   ·exact(HA.out.gr.setCell (Nat.le_refl _) _).setCell (Nat.le_refl _) _
theorem nats_of {B:Nat} {A:Option Addr} {n cap:Nat} {f:Nat→Nat} {w:World} (hd:∀i,i<n→f i<4294967296) (hn:n≤1099511627776) (h:U32 B w (.slice A n cap) n f):
  Calls Tryz.prog 123 #[.slice A n cap] w (Ret w (natV (vf f n))):=by
 by_cases hm:wl (vf f n)≤2
 ·exact nats_of_small hd hn h hm
 ·exact nats_of_big hd hn h (by omega)
end Go.Proofs.YtfgmdhjmgdccdaaGreat
namespace Go.Proofs.YtfgmdhjmgdccdaaGreat
open Go.RowKit Gus
theorem bytes_toList_inj {a b:ByteArray}:a.toList=b.toList↔a=b:=by
 constructor
 ·intro h
  rw [ByteArray.toList_eq,ByteArray.toList_eq]at h
  cases a;cases b
  simpa using h
 ·rintro rfl;rfl
theorem nat_eq (a b:Nat) (W:World):(binOp .eql 53 (.agg #[.int .u64 (lowN a),.string (bigS a)]) (.agg #[.int .u64 (lowN b),.string (bigS b)])).run Tryz.prog W= .ok (.bool (decide (a=b))) W:=by
 go_simp
 have h:=nat_same (a:=a) (b:=b)
 by_cases h1:lowN a=lowN b
 ·by_cases h2:bigS a=bigS b
  ·rw [if_pos (by rw [h1]),if_pos (by rw [h2]),decide_eq_true (h.1 ⟨h1,h2⟩)]
  ·rw [if_pos (by rw [h1]),if_neg (by rw [bytes_toList_inj];exact h2),decide_eq_false (fun e=>h2 (h.2 e).2)]
 ·rw [if_neg (by omega),decide_eq_false (fun e=>h1 (h.2 e).1)]
theorem natV_zero:natV 0= .agg #[.int .u64 0,.string ⟨#[]⟩]:=by
 rw [natV,lowN_small (by omega),bigS_small (by omega)];rfl
theorem nat_eq0 (a:Nat) (W:World):(binOp .eql 53 (.agg #[.int .u64 (lowN a),.string (bigS a)]) (.agg #[.int .u64 0,.string ⟨#[]⟩])).run Tryz.prog W= .ok (.bool (decide (a=0))) W:=by
 have h:=nat_eq a 0 W
 have e1:lowN 0=0:=lowN_small (by omega)
 have e2:bigS 0=⟨#[]⟩:=bigS_small (by omega)
 rw [e1,e2]at h
 exact h
set_option maxHeartbeats 400000 in
theorem nats_Of {n:Nat} (h:n<18446744073709551616) (w:World):Calls Tryz.prog 106 #[.int .u64 n] w (Ret w (natV n)):=by
 have hb:=bigS_small h
 have hl:=lowN_small h
 unfold natV
 rw [hb,hl]
 clear hb hl h
 go_enter Tryz.func106,Tryz.ntmps106
 go_wp2
 exact bodyPost_ret (v:= .agg #[.int .u64 n,.string ⟨#[]⟩]) (by simp [results,Tryz.results106,go_sem]) rfl ⟨rfl,(Gr.refl _ _).alloc (Nat.le_refl _) _⟩
set_option maxHeartbeats 400000 in
theorem nats_zero (n:Nat) (w:World):Calls Tryz.prog 161 #[natV n] w (Ret w (.bool (decide (n=0)))):=by
 have hq:=nat_eq0 n
 unfold natV
 go_enter Tryz.func161,Tryz.ntmps161
 go_wp2
 go_ret
 exact⟨rfl,(Gr.refl _ _).alloc (Nat.le_refl _) _⟩
theorem ret_int {k:IntKind} {a b:Int} (h:a=b):Ending.returned (.int k a)= .returned (.int k b):=by rw [h]
set_option maxHeartbeats 400000 in
theorem nats_sign {n:Int} (h1: -9223372036854775808≤n) (h2:n≤9223372036854775807) (w:World):Calls Tryz.prog 209 #[.int .i64 n] w fun e w'=>e= .returned (.int .i64 (sgnI n))∧w=w':=by
 go_enter Tryz.func209,Tryz.ntmps209
 go_wp2
 all_goals (go_ret;exact⟨ret_int (by unfold sgnI;split<;>(try split)<;>omega),rfl⟩)
set_option maxHeartbeats 400000 in
theorem nats_cmp {a b:Nat} {B B':Nat} {v v':Value} {w:World} (ha:wl a≤1099511627776) (hb:wl b≤1099511627776) (h:U32 B w v (wl a) (dig a)) (h':U32 B' w v' (wl b) (dig b)):
  Calls Tryz.prog 189 #[v,v'] w (Ret w (.int .i64 (cmpN a b))):=by
 obtain ⟨A,cap,rfl,hcap,h⟩:=h.open
 obtain ⟨A',cap',rfl,hcap',h'⟩:=h'.open
 by_cases hne:wl a=wl b
 ·have hq:(((wl a:Nat):Int) != ((wl b:Nat):Int))=false:=by simp [hne]
  rw [←hne]at h' hcap' hq ⊢
  have H:=Lh h
  have H':=Lh h'
  have HE:=Lh hne
  clear h h' hne
  go_enter Tryz.func189,Tryz.ntmps189
  go_wp2_with fail
  go_loopw [5] (fun s wr=> ∃k:Nat,k≤wl a∧s= .int .i64 ((k:Int) - 1)∧Hid (∀j,k≤j→j<wl a→dig a j=dig b j)∧Gr w.heap.size w wr) (fun s _=>(intOf s+1).toNat)
  case atStart=>exact⟨wl a,Nat.le_refl _,rfl,fun j h1 h2=>by omega,Gr.refl _ _⟩
  case round=>
   obtain ⟨k,hk,rfl,hd,hgr⟩:=hrel
   by_cases h0:k=0
   ·subst h0
    go_wp2
    go_ret
    refine⟨?_,hgr⟩
    rw [dig_ext HE.out (fun i hi=>hd.out i (by omega) hi),cmpN_eq];rfl
   ·obtain ⟨j,rfl⟩:∃j,k=j+1:=⟨k - 1,by omega⟩
    obtain ⟨g,o,rfl,_,hg,hc,_⟩:=H.out.at_ (k:=j) (by omega)
    obtain ⟨g',o',rfl,_,hg',hc',_⟩:=H'.out.at_ (k:=j) (by omega)
    have hc:=(hgr.cell (p:=⟨g,o+j,none⟩) hg).trans hc
    have hc':=(hgr.cell (p:=⟨g',o'+j,none⟩) hg').trans hc'
    have HG:=Lh hgr
    clear hgr
    have ej:((j+1:Nat):Int) - 1=(j:Int):=by omega
    rw [ej]
    clear ej
    rcases Nat.lt_trichotomy (dig a j) (dig b j)with hlt|heq|hgt
    ·have h1:(((dig a j:Nat):Int) != ((dig b j:Nat):Int))=true:=by simp;omega
     have hfin:=cmpN_lt (lt_of_dig (by omega) HE.out (fun i h1 h2=>hd.out i h1 h2) hlt)
     have HF:=Lh hfin
     clear hfin
     go_wp2_with fail
     go_quiet (fail)
     go_wp2_with fail
     go_quiet (fail)
     go_wp2
     go_ret
     exact⟨by rw [HF.out];rfl,(HG.out.drewN _).drewN _⟩
    ·have h1:(((dig a j:Nat):Int) != ((dig b j:Nat):Int))=false:=by simp [heq]
     have HQ:=Lh heq
     clear heq
     go_wp2_with fail
     go_quiet (fail)
     go_wp2
     go_roundw
     case rel=>
      refine⟨j,by omega,rfl,fun i h1 h2=>?_,HG.out.drewN _⟩
      by_cases hij:i=j
      ·subst hij;exact HQ.out
      ·exact hd.out i (by omega) h2
     case measure=>simp [intOf]
    ·have h1:(((dig a j:Nat):Int) != ((dig b j:Nat):Int))=true:=by simp;omega
     have hfin:=cmpN_gt (lt_of_dig (by have:=HE.out;omega) HE.out.symm (fun i h1 h2=>(hd.out i h1 (by rw [HE.out];exact h2)).symm) hgt)
     have HF:=Lh hfin
     clear hfin
     go_wp2_with fail
     go_quiet (fail)
     go_wp2_with fail
     go_quiet (fail)
     go_wp2
     go_ret
     exact⟨by rw [HF.out];rfl,(HG.out.drewN _).drewN _⟩
 ·have hq:(((wl a:Nat):Int) != ((wl b:Nat):Int))=true:=by simp;omega
  have hfin:=cmpN_wl hne
  have HF:=Lh hfin
  clear hfin h h'
  go_enter Tryz.func189,Tryz.ntmps189
  go_wp2_with fail
  refine(nats_sign (by omega) (by omega) _).mono ?_
  rintro e w' ⟨rfl,rfl⟩
  go_wp2
  go_ret
  exact⟨ret_int HF.out,Gr.refl _ _⟩
theorem big_isEmpty (n:Nat):(bigS n).toList.isEmpty=decide (n<18446744073709551616):=by
 rw [Bool.eq_iff_iff,decide_eq_true_iff,←bigS_nil (n:=n),List.isEmpty_iff]
 constructor
 ·intro h;exact bytes_toList_inj.1 (by rw [h];exact(ByteArray.toList_mk []).symm)
 ·intro h;rw [h];exact ByteArray.toList_mk []
theorem big_false {n:Nat} (h:¬n<18446744073709551616):(bigS n).toList.isEmpty=false:=by rw [big_isEmpty,decide_eq_false h]
def Box2 (w:World) (g:Nat) (a b:Nat):Prop:=
 w.cell? ⟨g,0,none⟩=some (.int .u64 (lowN a))∧w.cell? ⟨g,1,none⟩=some (.string (bigS a))∧w.cell? ⟨g+1,0,none⟩=some (.int .u64 (lowN b))∧w.cell? ⟨g+1,1,none⟩=some (.string (bigS b))
set_option maxHeartbeats 400000 in
theorem nats_Cmp (a b:Nat) (w:World) (ha:wl a≤1099511627776) (hb:wl b≤1099511627776):
  Calls Tryz.prog 162 #[natV a,natV b] w (Ret w (.int .i64 (cmpN a b))):=by
 by_cases h1:a<18446744073709551616∧b<18446744073709551616
 ·obtain ⟨h1,h2⟩:=h1
  have hba:=bigS_small h1
  have hla:=lowN_small h1
  have hbb:=bigS_small h2
  have hlb:=lowN_small h2
  unfold natV
  rw [hba,hla,hbb,hlb]
  clear hba hla hbb hlb h1 h2
  rcases Nat.lt_trichotomy a b with hlt|rfl|hgt
  ·have e:=cmpN_lt hlt
   rw [e]
   clear e
   go_enter Tryz.func162,Tryz.ntmps162
   go_wp2
   go_ret
   exact⟨rfl,((Gr.refl _ _).alloc (Nat.le_refl _) _).alloc (by simp) _⟩
  ·have e:=cmpN_eq a
   rw [e]
   clear e
   go_enter Tryz.func162,Tryz.ntmps162
   go_wp2
   go_ret
   exact⟨rfl,((Gr.refl _ _).alloc (Nat.le_refl _) _).alloc (by simp) _⟩
  ·have e:=cmpN_gt hgt
   rw [e]
   clear e
   go_enter Tryz.func162,Tryz.ntmps162
   go_wp2
   go_ret
   exact⟨rfl,((Gr.refl _ _).alloc (Nat.le_refl _) _).alloc (by simp) _⟩
 ·by_cases h2:a<18446744073709551616
  ·have hb2:=big_false (n:=b) (fun e=>h1 ⟨h2,e⟩)
   have ha2:(bigS a).toList.isEmpty=true:=by rw [big_isEmpty,decide_eq_true h2]
   clear h1 h2
   unfold natV
   go_enter Tryz.func162,Tryz.ntmps162
   go_wp2_with fail
   go_region_held3 (fun w'=>w'.cell? ⟨w.heap.size,0,none⟩=some (.int .u64 (lowN a))∧w'.cell? ⟨w.heap.size,1,none⟩=some (.string (bigS a))∧w'.cell? ⟨w.heap.size+1,0,none⟩=some (.int .u64 (lowN b))∧w'.cell? ⟨w.heap.size+1,1,none⟩=some (.string (bigS b)))
    (first|(simp [go_sem, *];done))
    (first
     | (go_at_call_of 124 (Value.agg #[.int .u64 (lowN a),.string (bigS a)]);refine(nats_words a _ ha).mono ?_;rintro e w1 ⟨v1,rfl,hv1,hg1⟩;have hz1:w.heap.size+1<w1.heap.size:=(by have:=hg1.size;(try simp at this);omega);have hy1:w.heap.size<w1.heap.size:=(by omega);obtain ⟨hc1,hf1⟩:=hg1.cells;have HV1:=Lh hv1;have HG1:=Lh hg1;clear hv1 hg1)
     | (go_at_call_of 124 (Value.agg #[.int .u64 (lowN b),.string (bigS b)]);refine(nats_words b _ hb).mono ?_;rintro e w2 ⟨v2,rfl,hv2,hg2⟩;have hz2:w.heap.size+1<w2.heap.size:=(by have:=hg2.size;(try simp at this);omega);have hy2:w.heap.size<w2.heap.size:=(by omega);obtain ⟨hc2,hf2⟩:=hg2.cells;have HV2:=Lh hv2;have HG2:=Lh hg2;clear hv2 hg2)
     | (go_at_call 189;refine(nats_cmp ha hb (HV1.out.gr HG2.out (Nat.le_refl _)) HV2.out).mono ?_;rintro e w3 ⟨rfl,hg3⟩;have hz3:w.heap.size+1<w3.heap.size:=(by have:=hg3.size;(try simp at this);omega);have hy3:w.heap.size<w3.heap.size:=(by omega);obtain ⟨hc3,hf3⟩:=hg3.cells;have HG3:=Lh hg3;clear hg3))
   go_wp2
   go_ret
   refine⟨rfl,?_⟩
   have g0:=(((Gr.refl w.heap.size w).alloc (Nat.le_refl _) (.cells #[.int .u64 (lowN a),.string (bigS a)] 53)).alloc (by simp) (.cells #[.int .u64 (lowN b),.string (bigS b)] 53)).drew
   exact((g0.trans (HG1.out.mono (by simp;omega))).trans (HG2.out.mono (by omega))).trans (HG3.out.mono (by omega))
  ·have ha2:=big_false (n:=a) h2
   clear h1 h2
   unfold natV
   go_enter Tryz.func162,Tryz.ntmps162
   go_wp2_with fail
   go_region_held3 (fun w'=>w'.cell? ⟨w.heap.size,0,none⟩=some (.int .u64 (lowN a))∧w'.cell? ⟨w.heap.size,1,none⟩=some (.string (bigS a))∧w'.cell? ⟨w.heap.size+1,0,none⟩=some (.int .u64 (lowN b))∧w'.cell? ⟨w.heap.size+1,1,none⟩=some (.string (bigS b)))
    (first|(simp [go_sem, *];done))
    (first
     | (go_at_call_of 124 (Value.agg #[.int .u64 (lowN a),.string (bigS a)]);refine(nats_words a _ ha).mono ?_;rintro e w1 ⟨v1,rfl,hv1,hg1⟩;have hz1:w.heap.size+1<w1.heap.size:=(by have:=hg1.size;(try simp at this);omega);have hy1:w.heap.size<w1.heap.size:=(by omega);obtain ⟨hc1,hf1⟩:=hg1.cells;have HV1:=Lh hv1;have HG1:=Lh hg1;clear hv1 hg1)
     | (go_at_call_of 124 (Value.agg #[.int .u64 (lowN b),.string (bigS b)]);refine(nats_words b _ hb).mono ?_;rintro e w2 ⟨v2,rfl,hv2,hg2⟩;have hz2:w.heap.size+1<w2.heap.size:=(by have:=hg2.size;(try simp at this);omega);have hy2:w.heap.size<w2.heap.size:=(by omega);obtain ⟨hc2,hf2⟩:=hg2.cells;have HV2:=Lh hv2;have HG2:=Lh hg2;clear hv2 hg2)
     | (go_at_call 189;refine(nats_cmp ha hb (HV1.out.gr HG2.out (Nat.le_refl _)) HV2.out).mono ?_;rintro e w3 ⟨rfl,hg3⟩;have hz3:w.heap.size+1<w3.heap.size:=(by have:=hg3.size;(try simp at this);omega);have hy3:w.heap.size<w3.heap.size:=(by omega);obtain ⟨hc3,hf3⟩:=hg3.cells;have HG3:=Lh hg3;clear hg3))
   go_wp2
   go_ret
   refine⟨rfl,?_⟩
   have g0:=(((Gr.refl w.heap.size w).alloc (Nat.le_refl _) (.cells #[.int .u64 (lowN a),.string (bigS a)] 53)).alloc (by simp) (.cells #[.int .u64 (lowN b),.string (bigS b)] 53)).drew
   exact((g0.trans (HG1.out.mono (by simp;omega))).trans (HG2.out.mono (by omega))).trans (HG3.out.mono (by omega))
end Go.Proofs.YtfgmdhjmgdccdaaGreat
namespace Go.Proofs.YtfgmdhjmgdccdaaGreat
open Go.RowKit Gus
theorem bits_Add64 (x y:Nat) (hx:x<18446744073709551616) (hy:y<18446744073709551616) (w:World):(callFunc 167 #[.int .u64 x,.int .u64 y,.int .u64 0]).run Tryz.prog w =
  .ok (.value (.tuple #[.int .u64 (((x+y) % 18446744073709551616:Nat):Int),.int .u64 (((x+y) / 18446744073709551616:Nat):Int)])) w:=by
 rw [run_callFunc_extern Tryz.func167 (by kernel_rfl) (by kernel_rfl) (by kernel_rfl) (e:=add64Entry) (by kernel_rfl),run_add64 (x:Int) (y:Int) 0 (by omega) (by omega) (by omega) (by omega)]
 simp only [Result.andThen]
 congr 5<;>omega
set_option maxHeartbeats 400000 in
theorem bits_Add32 {x y c:Nat} (hx:x<4294967296) (hy:y<4294967296) (hc:c≤1) (w:World):
  Calls Tryz.prog 168 #[.int .u32 x,.int .u32 y,.int .u32 c] w fun e w'=>e= .returned (.tuple #[.int .u32 (((x+y+c) % 4294967296:Nat):Int),.int .u32 (((x+y+c) / 4294967296:Nat):Int)])∧w=w':=by
 go_enter Tryz.func168,Tryz.ntmps168
 go_wp2
 go_ret2
 exact⟨rfl,rfl⟩
theorem bor_word {x y c:Nat} (hx:x<4294967296) (hy:y<4294967296) (hc:c≤1):
  bits .or .u32 (bits .and .u32 (bits .xor .u32 IntKind.u32.max (x:Int)) (y:Int)) (bits .and .u32 (bits .xor .u32 IntKind.u32.max (bits .xor .u32 (x:Int) (y:Int))) (((x:Int) - y - c) % 4294967296)) / 2147483648=((bor32 x y c:Nat):Int):=by
 have em:IntKind.u32.max=((4294967295:Nat):Int):=by decide
 have e32:(2:Nat) ^ 32=4294967296:=by decide
 have ed:(((x:Int) - y - c) % 4294967296)=(((x+8589934592 - y - c) % 4294967296:Nat):Int):=by omega
 have l1:4294967295 ^^^ x<4294967296:=by rw [←e32];exact Nat.xor_lt_two_pow (by omega) (by omega)
 have l2:x ^^^ y<4294967296:=by rw [←e32];exact Nat.xor_lt_two_pow (by omega) (by omega)
 have l3:4294967295 ^^^ (x ^^^ y)<4294967296:=by rw [←e32];exact Nat.xor_lt_two_pow (by omega) (by omega)
 have l4:(4294967295 ^^^ x) &&& y<4294967296:=by rw [←e32];exact Nat.and_lt_two_pow _ (by omega)
 have ld:(x+8589934592 - y - c) % 4294967296<4294967296:=Nat.mod_lt _ (by omega)
 have l5:(4294967295 ^^^ (x ^^^ y)) &&& ((x+8589934592 - y - c) % 4294967296)<4294967296:=by rw [←e32];exact Nat.and_lt_two_pow _ (by rw [e32];exact ld)
 have h:=bor_bits hx hy hc rfl
 rw [em,ed,u32_xor_nat _ _ (by omega) hx,u32_xor_nat _ _ hx hy,u32_xor_nat _ _ (by omega) l2,u32_and_nat _ _ l1 hy,u32_and_nat _ _ l3 ld,u32_or_nat _ _ l4 l5,←h]
 rfl
set_option maxHeartbeats 400000 in
theorem bits_Sub32 {x y c:Nat} (hx:x<4294967296) (hy:y<4294967296) (hc:c≤1) (w:World):
  Calls Tryz.prog 165 #[.int .u32 x,.int .u32 y,.int .u32 c] w fun e w'=>e= .returned (.tuple #[.int .u32 (((x+8589934592 - y - c) % 4294967296:Nat):Int),.int .u32 ((bor32 x y c:Nat):Int)])∧w=w':=by
 go_enter Tryz.func165,Tryz.ntmps165
 go_wp2
 rw [bor_word hx hy hc]
 refine bodyPost_ret (results_tmp2 rfl _ _ _) rfl ⟨?_,rfl⟩
 have e:(((x:Int) - y - c) % 4294967296)=(((x+8589934592 - y - c) % 4294967296:Nat):Int):=by omega
 rw [e]
 rfl
theorem div_word {h l y:Nat} (hh:h<y) (hl:l<4294967296) (hy:y<4294967296):
  IntKind.u64.wrap ((bits .or .u64 ((h:Int)*4294967296) (l:Int)).tdiv (y:Int)) % 4294967296=(((h*4294967296+l) / y:Nat):Int)∧
  (bits .or .u64 ((h:Int)*4294967296) (l:Int)).tmod (y:Int) % 4294967296=(((h*4294967296+l) % y:Nat):Int):=by
 have e:((h:Int)*4294967296)=((h*4294967296:Nat):Int):=by omega
 have ej:h*4294967296 ||| l=h*4294967296+l:=nat_join 32 _ _ (by omega) (by omega)
 rw [e,u64_or_nat _ _ (by omega) (by omega),ej,←Int.ofNat_tdiv,←Int.ofNat_tmod,IntKind.wrap_u64]
 have h1:(h*4294967296+l) / y<4294967296:=by
  rw [Nat.div_lt_iff_lt_mul (by omega)]
  have:(h+1)*4294967296≤y*4294967296:=Nat.mul_le_mul_right _ hh
  rw [Nat.mul_comm 4294967296];omega
 have h2:(h*4294967296+l) % y<y:=Nat.mod_lt _ (by omega)
 generalize (h*4294967296+l) / y=q at *
 generalize (h*4294967296+l) % y=r at *
 omega
set_option maxHeartbeats 400000 in
theorem bits_Div32 {h l y:Nat} (hh:h<y) (hl:l<4294967296) (hy:y<4294967296) (w:World):
  Calls Tryz.prog 190 #[.int .u32 h,.int .u32 l,.int .u32 y] w (Ret w (.tuple #[.int .u32 (((h*4294967296+l) / y:Nat):Int),.int .u32 (((h*4294967296+l) % y:Nat):Int)])):=by
 have h0:(((y:Nat):Int) != 0)=true:=by simp;omega
 go_enter Tryz.func190,Tryz.ntmps190
 go_wp2
 go_quiet (fail)
 go_wp2
 go_ret2
 refine⟨?_,(Gr.refl _ _).drewN _⟩
 obtain ⟨e1,e2⟩:=div_word hh hl hy
 rw [←e1,←e2]
 rfl
end Go.Proofs.YtfgmdhjmgdccdaaGreat
