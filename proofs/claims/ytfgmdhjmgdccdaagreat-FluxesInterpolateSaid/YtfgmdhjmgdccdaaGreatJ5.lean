/-
  Part 5 of the proof: NatG NatH NatI.
-/
import Derived.Test.YtfgmdhjmgdccdaaGreatJ4
set_option linter.unusedSimpArgs false
set_option linter.unusedVariables false
set_option maxHeartbeats 8000000
namespace Go.Proofs.YtfgmdhjmgdccdaaGreat
open Go.RowKit Gus
theorem vf_four {a b:Nat} (ha:a<18446744073709551616) (hb:b<18446744073709551616):
  vf (fun i=>if i=0 then a*b % 18446744073709551616 % 4294967296 else if i=1 then a*b % 18446744073709551616 / 4294967296 % 4294967296 else if i=2 then a*b / 18446744073709551616 % 4294967296 else a*b / 18446744073709551616 / 4294967296 % 4294967296) 4=a*b:=by
 have h:a*b<18446744073709551616*18446744073709551616:=Nat.mul_lt_mul'' ha hb
 generalize a*b=p at *
 show 0+(p % 18446744073709551616 % 4294967296)*1+(p % 18446744073709551616 / 4294967296 % 4294967296)*4294967296+(p / 18446744073709551616 % 4294967296)*(4294967296 ^ 2)+(p / 18446744073709551616 / 4294967296 % 4294967296)*(4294967296 ^ 3)=p
 omega
structure ResAt (w:World) (g:Nat) (wx:World):Prop where
 gr:Gr w.heap.size w wx
 size:g<wx.heap.size
 base:w.heap.size≤g
 r0:wx.cell? ⟨g,0,none⟩=some (.int .u64 0)
 r1:wx.cell? ⟨g,1,none⟩=some (.string ⟨#[]⟩)
 f0:wx.frozen? ⟨g,0,none⟩=false
 f1:wx.frozen? ⟨g,1,none⟩=false
theorem ResAt.new {w wx:World} {g:Nat} (h:Gr w.heap.size w wx) (hg:g=wx.heap.size):ResAt w g (wx.alloc (.cells #[.int .u64 0,.string ⟨#[]⟩] 53)):=by
 subst hg
 refine⟨h.alloc h.size _,by simp,h.size,?_,?_,?_,?_⟩<;>simp [go_sem]
theorem ResAt.next {w wx wy:World} {g B:Nat} (h:ResAt w g wx) (hg:Gr B wx wy) (hB:g<B):ResAt w g wy:=by
 have c:=hg.cells
 refine⟨h.gr.trans (hg.mono (by have:=h.base;omega)),by have:=h.size;have:=hg.size;omega,h.base,?_,?_,?_,?_⟩
 ·rw [c.1 _ _ (by omega)];exact h.r0
 ·rw [c.1 _ _ (by omega)];exact h.r1
 ·rw [c.2 _ _ (by omega)];exact h.f0
 ·rw [c.2 _ _ (by omega)];exact h.f1
def four (lo hi:Nat) (i:Nat):Nat:=if i=0 then lo % 4294967296 else if i=1 then lo / 4294967296 % 4294967296 else if i=2 then hi % 4294967296 else hi / 4294967296 % 4294967296
theorem mul64_parts {a b:Nat} (ha:a<18446744073709551616) (hb:b<18446744073709551616):∃lo hi:Nat,(∀i,i<4→four lo hi i<4294967296)∧vf (four lo hi) 4=a*b∧
  ∀w:World,Calls Tryz.prog 122 #[.int .u64 a,.int .u64 b] w fun e w'=>e= .returned (.tuple #[.int .u64 (hi:Int),.int .u64 (lo:Int)])∧w'=w:=by
 refine⟨a*b % 18446744073709551616,a*b / 18446744073709551616,?_,vf_four ha hb,Tryz.bits_Mul64 a b ha hb⟩
 have h:a*b<18446744073709551616*18446744073709551616:=Nat.mul_lt_mul'' ha hb
 generalize a*b=p at *
 intro i _
 unfold four
 split
 ·omega
 ·split
  ·omega
  ·split<;>omega
theorem four_U32 {w:World} {lo hi n:Nat} (t:TypeId) (hn:n=w.heap.size):
  U32 n (w.alloc (.cells #[.int .u32 ((lo:Int) % 4294967296),.int .u32 ((lo:Int) / 4294967296 % 4294967296),.int .u32 ((hi:Int) % 4294967296),.int .u32 ((hi:Int) / 4294967296 % 4294967296)] t)) (.slice (some ⟨n,0,none⟩) 4 4) 4 (four lo hi):=by
 subst hn
 refine⟨_,4,rfl,Nat.le_refl _,fun _=>⟨w.heap.size,0,rfl,Nat.le_refl _,by simp,fun j hj=>⟨?_,World.frozen?_alloc_at _ _ _ _ rfl⟩⟩⟩
 rw [World.cell?_alloc_at _ _ _ _ rfl]
 match j,hj with
 | 0,_=>rfl
 | 1,_=>rfl
 | 2,_=>rfl
 | 3,_=>rfl
set_option maxRecDepth 100000 in
set_option maxHeartbeats 1000000 in
theorem nats_Mul_small {a b:Nat} (w:World) (ha:a<18446744073709551616) (hb:b<18446744073709551616):
  Calls Tryz.prog 81 #[natV a,natV b] w (Ret w (natV (a*b))):=by
 obtain ⟨lo,hi,hd,hv,hmul⟩:=mul64_parts ha hb
 have HD:=Lh hd
 have HV:=Lh hv
 have HM:=Lh hmul
 rw [natV_small ha,natV_small hb]
 clear hmul hv ha hb hd
 go_enter Tryz.func81,Tryz.ntmps81
 go_wp2_with fail
 refine(HM.out _).mono ?_
 rintro e w' ⟨rfl,rfl⟩
 go_wp2_with fail
 refine(nats_of HD.out (by omega) (four_U32 _ (by simp))).mono ?_
 rintro e w4 ⟨rfl,hg4⟩
 rw [HV.out]
 have h0:=ResAt.new (g:=w.heap.size+1+1) (((Gr.refl w.heap.size w).alloc (Nat.le_refl _) (.cells #[.int .u64 a,.string ⟨#[]⟩] 53)).alloc (by simp) (.cells #[.int .u64 b,.string ⟨#[]⟩] 53)) (by simp)
 have ht4:=(h0.next (B:=w.heap.size+1+1+1) ((Gr.refl _ _).alloc (by simp) _) (by omega)).next hg4 (by simp)
 obtain ⟨e0,e1,e2,e3⟩:=set2 (.int .u64 (lowN (a*b))) (.string (bigS (a*b))) ht4.r0 ht4.r1
 have r0:=ht4.r0
 have r1:=ht4.r1
 have f0:=ht4.f0
 have f1:=ht4.f1
 have HT4:=Lh ht4
 clear h0 ht4 hg4
 go_wp2
 exact bodyPost_ret (v:= .agg #[.int .u64 (lowN (a*b)),.string (bigS (a*b))]) (by simp [results,Tryz.results81,go_sem,e2,e3]) rfl ⟨rfl,(HT4.out.gr.setCell (by simp;omega) _).setCell (by simp;omega) _⟩
structure MulL (wc wr:World) (a b n i:Nat):Prop where
 gr:Gr wc.heap.size wc wr
 out:U32 wc.heap.size wr (.slice (some ⟨wc.heap.size,0,none⟩) n n) n (muO (dig a) (dig b) (wl b) i)
abbrev rowO (a b i:Nat):Nat→Nat:=fun t=>muO (dig a) (dig b) (wl b) i (i+t)
structure MulR (wc wr:World) (a b n i k:Nat):Prop where
 gr:Gr wc.heap.size wc wr
 out:U32 wc.heap.size wr (.slice (some ⟨wc.heap.size,0,none⟩) n n) n (fun j=>if i≤j∧j<i+k then mlU (dig a i) (dig b) (rowO a b i) (j - i)else muO (dig a) (dig b) (wl b) i j)
theorem MulR.step {wc wr:World} {a b n i k:Nat} (h:MulR wc wr a b n i k) (hk:i+k<n):
  MulR wc (wr.setCell ⟨wc.heap.size,i+k,none⟩ (.int .u32 ((mlC (dig a i) (dig b) (rowO a b i) k+(dig a i*dig b k+rowO a b i k)) % 4294967296:Nat))) a b n i (k+1):=by
 refine⟨h.gr.setCell (Nat.le_refl _) _,(h.out.set0 hk).congr fun j hj=>?_⟩
 by_cases e:j=i+k
 ·subst e
  simp only [if_true,if_pos (show i≤i+k∧i+k<i+(k+1) by omega),Nat.add_sub_cancel_left,mlU]
 ·by_cases e2:i≤j∧j<i+k
  ·simp only [if_neg e,if_pos e2,if_pos (show i≤j∧j<i+(k+1) by omega)]
  ·simp only [if_neg e,if_neg e2,if_neg (show ¬(i≤j∧j<i+(k+1)) by omega)]
theorem MulR.done {wc wr:World} {a b n i:Nat} (h:MulR wc wr a b n i (wl b)) (hk:i+wl b<n):
  MulL wc (wr.setCell ⟨wc.heap.size,i+wl b,none⟩ (.int .u32 (mlC (dig a i) (dig b) (rowO a b i) (wl b):Nat))) a b n (i+1):=by
 refine⟨h.gr.setCell (Nat.le_refl _) _,(h.out.set0 hk).congr fun j hj=>?_⟩
 show _=(if j<i then muO (dig a) (dig b) (wl b) i j else if j<i+wl b then mlU (dig a i) (dig b) (rowO a b i) (j - i)else if j=i+wl b then mlC (dig a i) (dig b) (rowO a b i) (wl b)else muO (dig a) (dig b) (wl b) i j)
 by_cases e:j=i+wl b
 ·subst e
  simp only [if_true,if_neg (show ¬i+wl b<i by omega),if_neg (show ¬i+wl b<i+wl b by omega)]
 ·by_cases e2:i≤j∧j<i+wl b
  ·simp only [if_neg e,if_pos e2,if_neg (show ¬j<i by omega),if_pos e2.2]
  ·by_cases e3:j<i
   ·simp only [if_neg e,if_neg e2,if_pos e3]
   ·simp only [if_neg e,if_neg e2,if_neg e3,if_neg (show ¬j<i+wl b by omega)]
set_option maxRecDepth 100000 in
set_option maxHeartbeats 2000000 in
theorem nats_Mul_big {a b:Nat} (w:World) (ha:wl a≤549755813888) (hb:wl b≤549755813888) (h:18446744073709551616≤a∨18446744073709551616≤b):
  Calls Tryz.prog 81 #[natV a,natV b] w (Ret w (natV (a*b))):=by
 have h0:=Lh (Two.start w a b)
 obtain ⟨i0,hi,hz0,hz1,hz2⟩:=info_parts info_u32
 have hmk:∀W:World,(Instr.makeSlice 210 (.int .i64 ((wl a:Int)+(wl b:Int))) (.int .i64 ((wl a:Int)+(wl b:Int)))).run Tryz.prog W =
   .ok (.slice (some ⟨W.heap.size,0,none⟩) (wl a+wl b) (wl a+wl b)) (W.alloc (.cells (madeCells #[.int .u32 0] (wl a+wl b)) 78)):=by
  intro W
  have e:((wl a:Int)+(wl b:Int))=((wl a+wl b:Nat):Int):=by omega
  rw [e,run_make_rowN 210 78 i0 _ Tryz.underlying210 hi hz0 .i64 .i64 (wl a+wl b) (wl a+wl b) (Nat.le_refl _) (by rw [hz2];omega) (by omega) W,hz1,Nat.mul_one]
  rfl
 clear hi hz0 hz1 hz2
 have hab:((bigS a).toList.isEmpty=false)∨((bigS a).toList.isEmpty=true∧(bigS b).toList.isEmpty=false):=by
  rcases Nat.lt_or_ge a 18446744073709551616 with h1|h1
  ·exact .inr ⟨by rw [big_isEmpty,decide_eq_true h1],big_false (by omega)⟩
  ·exact .inl (big_false (by omega))
 clear h
 unfold natV
 rcases hab with hab|⟨hab,hab2⟩
 all_goals
  go_enter Tryz.func81,Tryz.ntmps81
  go_upto_region 4 with fail
  go_cut [7,8] (fun x y wx=>AddW w a b x y wx)
  case first=>
   go_region_held3 (fun w'=>w'.cell? ⟨w.heap.size,0,none⟩=some (.int .u64 (lowN a))∧w'.cell? ⟨w.heap.size,1,none⟩=some (.string (bigS a))∧w'.cell? ⟨w.heap.size+1,0,none⟩=some (.int .u64 (lowN b))∧w'.cell? ⟨w.heap.size+1,1,none⟩=some (.string (bigS b)))
    (first|(simp [go_sem, *];done))
    (first
     | (go_at_call_of 124 (Value.agg #[.int .u64 (lowN a),.string (bigS a)]);refine(nats_words a _ (by omega)).mono ?_;rintro e w1 ⟨v1,rfl,hv1,hg1⟩;have hz1:w.heap.size+1<w1.heap.size:=(by have:=hg1.size;(try simp at this);omega);have hy1:w.heap.size<w1.heap.size:=(by omega);obtain ⟨hc1,hf1⟩:=hg1.cells;have HV1:=Lh hv1;have HG1:=Lh hg1;clear hv1 hg1)
     | (go_at_call_of 124 (Value.agg #[.int .u64 (lowN b),.string (bigS b)]);refine(nats_words b _ (by omega)).mono ?_;rintro e w2 ⟨v2,rfl,hv2,hg2⟩;have hz2:w.heap.size+1<w2.heap.size:=(by have:=hg2.size;(try simp at this);omega);have hy2:w.heap.size<w2.heap.size:=(by omega);obtain ⟨hc2,hf2⟩:=hg2.cells;have HV2:=Lh hv2;have HG2:=Lh hg2;clear hv2 hg2))
   go_wp2_with fail
   go_meet
   exact AddW.made (Two.start w a b) HV1.out HG1.out HV2.out HG2.out
  case rest=>
   obtain ⟨htwo,hx,hy⟩:=hcut
   obtain ⟨X,cx,rfl,hcx,hx⟩:=hx.open
   obtain ⟨Y,cy,rfl,hcy,hy⟩:=hy.open
   have HT:=Lh htwo
   have HX:=Lh hx
   have HY:=Lh hy
   have hsz1:=htwo.size
   clear htwo hx hy
   go_wp2
   go_loopw [55] (fun s wr=> ∃i:Nat,i≤wl a∧s= .int .i64 i∧MulL wc wr a b (wl a+wl b) i) (fun s _=>wl a - (intOf s).toNat)
   case atStart=>exact⟨0,Nat.zero_le _,rfl,(Gr.refl _ _).alloc (Nat.le_refl _) _,(U32.made _ _).congr fun j _=>rfl⟩
   case round=>
    obtain ⟨i,hi,rfl,hl⟩:=hrel
    by_cases hlt:i<wl a
    ·obtain ⟨g,o,rfl,_,hg,hxc,_⟩:=HX.out.at_ hlt
     have hxc:=(hl.gr.cell (p:=⟨g,o+i,none⟩) hg).trans hxc
     have hai:=dig_lt a i
     have hr0:MulR wc wr a b (wl a+wl b) i 0:=⟨hl.gr,hl.out.congr fun j _=>by rw [if_neg (by omega)]⟩
     have HR0:=Lh hr0
     clear hl hr0
     go_wp2
     go_loopw [12,62] (fun c s wi=> ∃k:Nat,k≤wl b∧s= .int .i64 k∧c= .int .u64 (mlC (dig a i) (dig b) (rowO a b i) k)∧MulR wc wi a b (wl a+wl b) i k) (fun _ s _=>wl b - (intOf s).toNat)
     case atStart=>exact⟨0,Nat.zero_le _,rfl,rfl,HR0.out⟩
     case round=>
      obtain ⟨k,hk,rfl,rfl,hm⟩:=hrel
      by_cases hlk:k<wl b
      ·obtain ⟨g2,o2,rfl,_,hg2,hyc,_⟩:=HY.out.at_ hlk
       have hyc:=(hm.gr.cell (p:=⟨g2,o2+k,none⟩) hg2).trans hyc
       obtain ⟨hoc,hof,_⟩:=hm.out.at0 (k:=i+k) (by omega)
       simp only [if_neg (show ¬(i≤i+k∧i+k<i+k) by omega)]at hoc
       have hro:∀t,rowO a b i t<4294967296:=fun t=>muO_lt _ (fun _ _=>dig_lt _ _) (fun _ _=>dig_lt _ _) _
       have hcar:=mlC_lt (v:=dig b) (o:=rowO a b i) hai (n:=k) (fun _ _=>dig_lt _ _) (fun t _=>hro t)
       have hrk:=hro k
       have hbk:=dig_lt b k
       have hmul:=mul_word_le hai (dig_lt b k)
       have hmz:(0:Int)≤((dig a i:Nat):Int)*((dig b k:Nat):Int):=by rw [←Int.natCast_mul];omega
       have hmi:((dig a i:Nat):Int)*((dig b k:Nat):Int)≤18446744065119617025:=by rw [←Int.natCast_mul];omega
       have HM:=Lh (hm.step (show i+k<wl a+wl b by omega))
       change wr.cell? ⟨wc.heap.size,i+k,none⟩=some (.int .u32 (rowO a b i k))at hoc
       clear hm hro hmul
       generalize hR:rowO a b i=R at *
       go_wp2
       go_roundw
       case rel=>
        exact⟨k+1,by omega,by go_num,rfl,HM.out⟩
       case measure=>simp [intOf];omega
      ·obtain rfl:k=wl b:=by omega
       obtain ⟨hoc,hof,_⟩:=hm.out.at0 (k:=i+wl b) (by omega)
       have hro:∀t,rowO a b i t<4294967296:=fun t=>muO_lt _ (fun _ _=>dig_lt _ _) (fun _ _=>dig_lt _ _) _
       have hcar:=mlC_lt (v:=dig b) (o:=rowO a b i) hai (n:=wl b) (fun _ _=>dig_lt _ _) (fun t _=>hro t)
       have HM:=Lh (hm.done (show i+wl b<wl a+wl b by omega))
       obtain ⟨u,hu⟩:∃u,Value.int .u32 ((if i≤i+wl b∧i+wl b<i+wl b then mlU (dig a i) (dig b) (rowO a b i) (i+wl b - i)else muO (dig a) (dig b) (wl b) i (i+wl b):Nat):Int)=u:=⟨_,rfl⟩
       rw [hu]at hoc
       clear hm hro hu
       generalize hC:mlC (dig a i) (dig b) (rowO a b i) (wl b)=C at *
       go_wp2
       go_roundw
       case rel=>exact⟨i+1,by omega,by go_num,HM.out⟩
       case measure=>simp [intOf];omega
    ·obtain rfl:i=wl a:=by omega
     have hlt2:∀j,j<wl a+wl b→muO (dig a) (dig b) (wl b) (wl a) j<4294967296:=fun j _=>muO_lt _ (fun _ _=>dig_lt _ _) (fun _ _=>dig_lt _ _) _
     have hval:vf (muO (dig a) (dig b) (wl b) (wl a)) (wl a+wl b)=a*b:=by rw [vf_muO,vf_dig_wl,vf_dig_wl]
     have HL:=Lh hl
     have HLT:=Lh hlt2
     have HVAL:=Lh hval
     clear hl hlt2 hval
     go_wp2_with fail
     refine(nats_of HLT.out (by omega) HL.out.out).mono ?_
     rintro e w4 ⟨rfl,hg4⟩
     rw [HVAL.out]
     have ht3:=HT.out.next HL.out.gr (by omega)
     have ht4:=ht3.next hg4 ht3.size
     obtain ⟨e0,e1,e2,e3⟩:=set2 (.int .u64 (lowN (a*b))) (.string (bigS (a*b))) ht4.r0 ht4.r1
     have r0:=ht4.r0
     have r1:=ht4.r1
     have f0:=ht4.f0
     have f1:=ht4.f1
     have HT4:=Lh ht4
     clear ht3 ht4 hg4
     go_wp2
     exact bodyPost_ret (v:= .agg #[.int .u64 (lowN (a*b)),.string (bigS (a*b))]) (by simp [results,Tryz.results81,go_sem,e2,e3]) rfl ⟨rfl,(HT4.out.gr.setCell (by simp;omega) _).setCell (by simp;omega) _⟩
theorem nats_Mul (a b:Nat) (w:World) (ha:wl a≤549755813888) (hb:wl b≤549755813888):
  Calls Tryz.prog 81 #[natV a,natV b] w (Ret w (natV (a*b))):=by
 by_cases h:a<18446744073709551616∧b<18446744073709551616
 ·exact nats_Mul_small w h.1 h.2
 ·exact nats_Mul_big w ha hb (by omega)
end Go.Proofs.YtfgmdhjmgdccdaaGreat
namespace Go.Proofs.YtfgmdhjmgdccdaaGreat
open Go.RowKit Gus
def ShortPost (w:World) (n N y:Nat) (e:Ending) (w':World):Prop:=
 e= .returned (.tuple #[.slice (some ⟨w.heap.size,0,none⟩) n n,.int .u32 ((N % y:Nat):Int)])∧U32 w.heap.size w' (.slice (some ⟨w.heap.size,0,none⟩) n n) n (dig (N / y))∧Gr w.heap.size w w'
set_option maxRecDepth 100000 in
set_option maxHeartbeats 1000000 in
theorem nats_short {B:Nat} {A:Option Addr} {n cap N y:Nat} {w:World} (hn:n≤1099511627776) (hx:U32 B w (.slice A n cap) n (dig N)) (hN:N<4294967296 ^ n) (hy0:0<y) (hy:y<4294967296):
  Calls Tryz.prog 163 #[.slice A n cap,.int .u32 y] w (ShortPost w n N y):=by
 obtain ⟨i0,hi,hz0,hz1,hz2⟩:=info_parts info_u32
 have hmk:∀W:World,(Instr.makeSlice 210 (.int .i64 (n:Int)) (.int .i64 (n:Int))).run Tryz.prog W =
   .ok (.slice (some ⟨W.heap.size,0,none⟩) n n) (W.alloc (.cells (madeCells #[.int .u32 0] n) 78)):=by
  intro W
  rw [run_make_rowN 210 78 i0 _ Tryz.underlying210 hi hz0 .i64 .i64 n n (Nat.le_refl _) (by rw [hz2];omega) (by omega) W,hz1,Nat.mul_one]
  rfl
 have h00:N / 4294967296 ^ n % y=0:=by rw [Nat.div_eq_of_lt hN,Nat.zero_mod]
 have HX:=Lh hx
 have H00:=Lh h00
 clear hi hz0 hz1 hz2 hx h00 hN
 go_enter Tryz.func163,Tryz.ntmps163
 go_wp2
 go_loopw [5,6] (fun r s wr=> ∃k:Nat,k≤n∧s= .int .i64 ((k:Int) - 1)∧r= .int .u32 ((N / 4294967296 ^ k % y:Nat):Int)∧Gr w.heap.size w wr∧
   U32 w.heap.size wr (.slice (some ⟨w.heap.size,0,none⟩) n n) n (fun j=>if k≤j then dig (N / y) j else 0)) (fun _ s _=>(intOf s+1).toNat)
 case atStart=>exact⟨n,Nat.le_refl _,rfl,by rw [H00.out];rfl,(Gr.refl _ _).alloc (Nat.le_refl _) _,(U32.made _ _).congr fun j hj=>by rw [if_neg (by omega)]⟩
 case round=>
  obtain ⟨k,hk,rfl,rfl,hgr,hq⟩:=hrel
  by_cases h0:k=0
  ·subst h0
   have HQ:=Lh (hq.congr (f':=dig (N / y)) (fun j _=>if_pos (Nat.zero_le _)))
   clear hq
   go_wp2
   go_ret2
   exact⟨by simp,HQ.out,hgr⟩
  ·obtain ⟨i,rfl⟩:∃i,k=i+1:=⟨k - 1,by omega⟩
   obtain ⟨g,o,rfl,_,hg,hxc,_⟩:=HX.out.at_ (k:=i) (by omega)
   have hxc:=(hgr.cell (p:=⟨g,o+i,none⟩) hg).trans hxc
   have hr:N / 4294967296 ^ (i+1) % y<y:=Nat.mod_lt _ hy0
   have hdi:=dig_lt N i
   have hqd:=quot_dig N y i hy0
   have hrd:=rest_dig N y i
   have ei:((i+1:Nat):Int) - 1=(i:Int):=by omega
   rw [ei]
   have HG:=Lh hgr
   have HQ:=Lh hq
   have HQD:=Lh hqd
   have HRD:=Lh hrd
   clear hgr hq hqd hrd ei
   go_wp2_with fail
   refine(bits_Div32 hr hdi hy _).mono ?_
   rintro e w1 ⟨rfl,hg1⟩
   rw [HQD.out,HRD.out]
   have hgs:=HG.out.size
   have hq1:=HQ.out.gr hg1 (Nat.le_refl _)
   obtain ⟨hoc,hof,hos⟩:=hq1.at0 (k:=i) (by omega)
   have hst:=(hq1.set0 (k:=i) (x:=dig (N / y) i) (by omega)).congr (f':=fun j=>if i≤j then dig (N / y) j else 0) (fun j hj=>by
    by_cases e:j=i
    ·subst e;simp
    ·by_cases e2:i≤j
     ·simp only [if_neg e,if_pos e2,if_pos (show i+1≤j by omega)]
     ·simp only [if_neg e,if_neg e2,if_neg (show ¬i+1≤j by omega)])
   have HST:=Lh hst
   have HGR:=Lh (HG.out.trans (hg1.mono (by omega)))
   clear hst hq1 hg1
   go_wp2
   go_roundw
   case rel=>exact⟨i,by omega,rfl,rfl,HGR.out.setCell (Nat.le_refl _) _,HST.out⟩
   case measure=>simp [intOf]
theorem cast_shl (x s:Nat):((x:Nat):Int)*2 ^ s=((x*2 ^ s:Nat):Int):=by rw [Int.natCast_mul,Int.natCast_pow];rfl
theorem sh_bound {x s:Nat} (hx:x<4294967296) (hs:s≤31):x*2 ^ s<9223372036854775808:=by
 have h1:(2:Nat) ^ s≤2 ^ 31:=Nat.pow_le_pow_right (by omega) hs
 have h2:=Nat.mul_le_mul (show x≤4294967295 by omega) h1
 omega
theorem sh_or (N i:Nat) {s:Nat} (hs:s≤31):bits .or .u32 (((dig N i:Nat):Int)*2 ^ s % 4294967296) ((shC (dig N) s i:Nat):Int)=((shU (dig N) s i:Nat):Int):=by
 rw [cast_shl,←shU_or (x:=dig N) (s:=s) (n:=i) (by omega) (fun _ _=>dig_lt _ _)]
 have h1:shC (dig N) s i<2 ^ s:=shC_lt fun _ _=>dig_lt _ _
 have h2:(2:Nat) ^ s≤2 ^ 31:=Nat.pow_le_pow_right (by omega) hs
 have e:((dig N i*2 ^ s:Nat):Int) % 4294967296=((dig N i*2 ^ s % 4294967296:Nat):Int):=rfl
 rw [e,u32_or_nat _ _ (Nat.mod_lt _ (by omega)) (by omega)]
theorem sh_car (N i:Nat) {s:Nat} (hs:s≤31):IntKind.u64.wrap (((dig N i:Nat):Int)*2 ^ s) / 4294967296 % 4294967296=((shC (dig N) s (i+1):Nat):Int):=by
 rw [cast_shl,IntKind.wrap_u64]
 have hb:=sh_bound (dig_lt N i) hs
 show _=((dig N i*2 ^ s / 4294967296:Nat):Int)
 generalize dig N i*2 ^ s=p at *
 omega
def ShiftPost (w:World) (n N:Nat) (e:Ending) (w':World):Prop:=
 e= .returned (.slice (some ⟨w.heap.size,0,none⟩) (n+1) (n+1))∧U32 w.heap.size w' (.slice (some ⟨w.heap.size,0,none⟩) (n+1) (n+1)) (n+1) (dig N)∧Gr w.heap.size w w'
theorem sh_value {N n s:Nat} (hs:s≤31) (hN:N<4294967296 ^ n) (j:Nat) (hj:j<n+1):
  (if j<n then shU (dig N) s j else if j=n then shC (dig N) s n else 0)=dig (N*2 ^ s) j:=by
 have hlt:∀i,i<n+1→(fun j=>if j<n then shU (dig N) s j else if j=n then shC (dig N) s n else 0) i<4294967296:=by
  intro i hi
  by_cases h:i<n
  ·simp only [if_pos h];exact shU_lt (by omega) fun _ _=>dig_lt _ _
  ·simp only [if_neg h,if_pos (show i=n by omega)]
   have h1:shC (dig N) s n<2 ^ s:=shC_lt fun _ _=>dig_lt _ _
   have h2:(2:Nat) ^ s≤2 ^ 31:=Nat.pow_le_pow_right (by omega) hs
   omega
 have hv:vf (fun j=>if j<n then shU (dig N) s j else if j=n then shC (dig N) s n else 0) (n+1)=N*2 ^ s:=by
  have h:=vf_sh (dig N) s n
  rw [vf_dig,Nat.mod_eq_of_lt hN]at h
  rw [←h]
  show vf _ n+(if n<n then _ else if n=n then shC (dig N) s n else 0)*4294967296 ^ n=_
  rw [if_neg (Nat.lt_irrefl n),if_pos rfl]
  congr 1
  exact vf_congr fun i hi=>if_pos hi
 have:=dig_vf hlt j hj
 rw [hv]at this
 exact this.symm
set_option maxRecDepth 100000 in
set_option maxHeartbeats 1000000 in
theorem nats_shifted {B:Nat} {A:Option Addr} {n cap N s:Nat} {w:World} (hn:n≤549755813888) (hx:U32 B w (.slice A n cap) n (dig N)) (hN:N<4294967296 ^ n) (hs:s≤31):
  Calls Tryz.prog 192 #[.slice A n cap,.int .i64 s] w (ShiftPost w n (N*2 ^ s)):=by
 obtain ⟨i0,hi,hz0,hz1,hz2⟩:=info_parts info_u32
 have hmk:∀W:World,(Instr.makeSlice 210 (.int .i64 ((n:Int)+1)) (.int .i64 ((n:Int)+1))).run Tryz.prog W =
   .ok (.slice (some ⟨W.heap.size,0,none⟩) (n+1) (n+1)) (W.alloc (.cells (madeCells #[.int .u32 0] (n+1)) 78)):=by
  intro W
  have e:((n:Int)+1)=((n+1:Nat):Int):=by omega
  rw [e,run_make_rowN 210 78 i0 _ Tryz.underlying210 hi hz0 .i64 .i64 (n+1) (n+1) (Nat.le_refl _) (by rw [hz2];omega) (by omega) W,hz1,Nat.mul_one]
  rfl
 have HX:=Lh hx
 have HV:=Lh (sh_value (s:=s) hs hN)
 clear hi hz0 hz1 hz2 hx hN
 go_enter Tryz.func192,Tryz.ntmps192
 go_wp2
 go_loopw [6,15] (fun c t wr=> ∃i:Nat,i≤n∧t= .int .i64 i∧c= .int .u32 (shC (dig N) s i)∧Gr w.heap.size w wr∧
   U32 w.heap.size wr (.slice (some ⟨w.heap.size,0,none⟩) (n+1) (n+1)) (n+1) (fun j=>if j<i then shU (dig N) s j else 0)) (fun _ t _=>n - (intOf t).toNat)
 case atStart=>exact⟨0,Nat.zero_le _,rfl,rfl,(Gr.refl _ _).alloc (Nat.le_refl _) _,(U32.made _ _).congr fun j _=>by rw [if_neg (by omega)]⟩
 case round=>
  obtain ⟨i,hi,rfl,rfl,hgr,hq⟩:=hrel
  by_cases hlt:i<n
  ·obtain ⟨g,o,rfl,_,hg,hxc,_⟩:=HX.out.at_ hlt
   have hxc:=(hgr.cell (p:=⟨g,o+i,none⟩) hg).trans hxc
   have hdi:=dig_lt N i
   obtain ⟨hoc,hof,hos⟩:=hq.at0 (k:=i) (by omega)
   simp only [if_neg (Nat.lt_irrefl i)]at hoc
   have HG:=Lh hgr
   have HQ:=Lh hq
   clear hgr hq
   go_wp2
   rw [sh_or N i hs,sh_car N i hs]
   go_roundw
   case rel=>
    refine⟨i+1,by omega,by go_num,rfl,HG.out.setCell (Nat.le_refl _) _,(HQ.out.set0 (k:=i) (by omega)).congr fun j hj=>?_⟩
    by_cases e:j=i
    ·subst e;simp
    ·by_cases e2:j<i
     ·simp only [if_neg e,if_pos e2,if_pos (show j<i+1 by omega)]
     ·simp only [if_neg e,if_neg e2,if_neg (show ¬j<i+1 by omega)]
   case measure=>simp [intOf];omega
  ·obtain rfl:i=n:=by omega
   obtain ⟨hoc,hof,hos⟩:=hq.at0 (k:=i) (by omega)
   simp only [if_neg (Nat.lt_irrefl i)]at hoc
   have hst:=(hq.set0 (k:=i) (x:=shC (dig N) s i) (by omega)).congr (f':=dig (N*2 ^ s)) (fun j hj=>by
    rw [←HV.out j hj]
    by_cases e:j=i
    ·subst e;simp
    ·simp only [if_neg e])
   have HST:=Lh hst
   have HG:=Lh hgr
   clear hq hst hgr
   go_wp2
   go_ret
   exact⟨rfl,HST.out,HG.out.setCell (Nat.le_refl _) _⟩
structure Wr (g:Nat) (w w':World):Prop where
 os:w'.os=w.os
 tape:w'.tape=w.tape
 output:w'.output=w.output
 drawn:w.drawn≤w'.drawn
 size:w.heap.size≤w'.heap.size
 block:∀k,k<w.heap.size→k≠g→w'.heap[k]? =w.heap[k]?
theorem Wr.refl (g:Nat) (w:World):Wr g w w:=⟨rfl,rfl,rfl,Nat.le_refl _,Nat.le_refl _,fun _ _ _=>rfl⟩
theorem Wr.trans {g:Nat} {a b c:World} (h:Wr g a b) (k:Wr g b c):Wr g a c:=
 ⟨k.os.trans h.os,k.tape.trans h.tape,k.output.trans h.output,Nat.le_trans h.drawn k.drawn,Nat.le_trans h.size k.size,fun i hi hg=>(k.block i (Nat.lt_of_lt_of_le hi h.size) hg).trans (h.block i hi hg)⟩
theorem Wr.drew {g:Nat} {a w:World} (h:Wr g a w):Wr g a w.drew:=⟨h.os,h.tape,h.output,Nat.le_succ_of_le h.drawn,h.size,h.block⟩
theorem Wr.drewN {g:Nat} {a w:World} (h:Wr g a w) (n:Nat):Wr g a (w.drewN n):=⟨h.os,h.tape,h.output,Nat.le_trans h.drawn (Nat.le_add_right _ _),h.size,h.block⟩
theorem Wr.setCell {g:Nat} {a w:World} (h:Wr g a w) (o:Nat) (u:Value):Wr g a (w.setCell ⟨g,o,none⟩ u):=
 h.trans ⟨rfl,rfl,rfl,Nat.le_refl _,by simp [World.setCell],fun k _ hk=>Below.heap_setCell _ _ _ _ hk⟩
theorem Wr.gr {g B:Nat} {a w w':World} (h:Wr g a w) (k:Gr B w w') (hB:w.heap.size≤B):Wr g a w':=
 h.trans ⟨k.os,k.tape,k.output,k.drawn,k.size,fun i hi _=>k.block i (by omega)⟩
theorem Wr.toGr {g B:Nat} {w w':World} (h:Wr g w w') (hg:B≤g) (hB:B≤w.heap.size):Gr B w w':=
 ⟨h.os,h.tape,h.output,h.drawn,h.size,fun k hk=>h.block k (by omega) (by omega)⟩
theorem U32.wr {B g:Nat} {w w':World} {v:Value} {n:Nat} {f:Nat→Nat} (h:U32 B w v n f) (hw:Wr g w w') (hp:0<n→v.ownBlock≠some g):U32 B w' v n f:=by
 obtain ⟨A,cp,rfl,hc,h⟩:=h
 refine⟨A,cp,rfl,hc,fun hn=>?_⟩
 obtain ⟨g',o,rfl,hB,hg,hj⟩:=h hn
 have hb:=hw.block g' hg (fun e=>hp hn (by subst e;rfl))
 refine⟨g',o,rfl,hB,Nat.lt_of_lt_of_le hg hw.size,fun j hjn=>?_⟩
 rw [World.cell?_of_block (a:=⟨g',o+j,none⟩) hb,World.frozen?_of_block (a:=⟨g',o+j,none⟩) hb]
 exact hj j hjn
theorem half_or {N i:Nat}:bits .or .u32 (((dig N i:Nat):Int) / 2) (((dig N (i+1):Nat):Int)*2147483648 % 4294967296)=((dig (N / 2) i:Nat):Int):=by
 have h1:=dig_lt N i
 have h2:=dig_lt N (i+1)
 rw [dig_half]
 generalize dig N i=x at *
 generalize dig N (i+1)=y at *
 have e1:((x:Nat):Int) / 2=((x / 2:Nat):Int):=rfl
 have e2:((y:Nat):Int)*2147483648 % 4294967296=((y % 2*2147483648:Nat):Int):=by omega
 rw [e1,e2,u32_or_nat _ _ (by omega) (by omega),Nat.or_comm,nat_join 31 _ _ (by omega) (by omega),Nat.add_comm]
theorem half_top {N n i:Nat} (hN:N<4294967296 ^ n) (hi:i+1=n):((dig N i:Nat):Int) / 2=((dig (N / 2) i:Nat):Int):=by
 have h0:dig N (i+1)=0:=dig_of_ge ((wl_le_iff _ _).2 (by rw [hi];exact hN))
 rw [dig_half,h0]
 generalize dig N i=x at *
 omega
abbrev halfF (N i:Nat):Nat→Nat:=fun j=>if j<i then dig (N / 2) j else dig N j
set_option maxRecDepth 100000 in
set_option maxHeartbeats 1000000 in
theorem nats_half {B g o n cap N:Nat} {w:World} (hn:n≤1099511627776) (hx:U32 B w (.slice (some ⟨g,o,none⟩) n cap) n (dig N)) (hN:N<4294967296 ^ n):
  Calls Tryz.prog 194 #[.slice (some ⟨g,o,none⟩) n cap] w fun e w'=>e= .returned (.tuple #[])∧U32 B w' (.slice (some ⟨g,o,none⟩) n cap) n (dig (N / 2))∧Wr g w w':=by
 have HX:=Lh hx
 have HN:=Lh hN
 clear hx hN
 go_enter Tryz.func194,Tryz.ntmps194
 go_wp2
 go_loopw [5] (fun t wr=> ∃i:Nat,i≤n∧t= .int .i64 i∧Wr g w wr∧U32 B wr (.slice (some ⟨g,o,none⟩) n cap) n (halfF N i)) (fun t _=>n - (intOf t).toNat)
 case atStart=>exact⟨0,Nat.zero_le _,rfl,Wr.refl _ _,HX.out.congr fun j _=>by rw [halfF,if_neg (by omega)]⟩
 case round=>
  obtain ⟨i,hi,rfl,hwr,hu⟩:=hrel
  by_cases hlt:i<n
  ·obtain ⟨g',o',e,_,hos,hoc,hof⟩:=hu.at_ hlt
   cases e
   rw [halfF,if_neg (Nat.lt_irrefl i)]at hoc
   have hdi:=dig_lt N i
   have hu1:U32 B (wr.setCell ⟨g,o+i,none⟩ (.int .u32 (((dig N i:Nat):Int) / 2))) (.slice (some ⟨g,o,none⟩) n cap) n (fun j=>if j=i then dig N i / 2 else halfF N i j):=hu.set (x:=dig N i / 2) hlt
   obtain ⟨_,_,e,_,_,hc1,hf1⟩:=hu1.at_ hlt
   cases e
   simp only [if_true]at hc1
   change _=some (Value.int .u32 (((dig N i:Nat):Int) / 2))at hc1
   have hup:∀x,x=dig (N / 2) i→U32 B ((wr.setCell ⟨g,o+i,none⟩ (.int .u32 (((dig N i:Nat):Int) / 2))).setCell ⟨g,o+i,none⟩ (.int .u32 ((x:Nat):Int))) (.slice (some ⟨g,o,none⟩) n cap) n (halfF N (i+1)):=by
    intro x hx
    refine(hu1.set (x:=x) hlt).congr fun j hj=>?_
    by_cases e:j=i
    ·subst e;simp [halfF,hx]
    ·by_cases e2:j<i
     ·simp only [halfF,if_neg e,if_pos e2,if_pos (show j<i+1 by omega)]
     ·simp only [halfF,if_neg e,if_neg e2,if_neg (show ¬j<i+1 by omega)]
   by_cases hl:i+1<n
   ·obtain ⟨_,_,e,_,_,hc2,hf2⟩:=hu1.at_ hl
    cases e
    simp only [halfF,if_neg (show ¬i+1=i by omega),if_neg (show ¬i+1<i by omega)]at hc2
    have HU:=Lh (hup _ rfl)
    have HW:=Lh hwr
    have hlb:decide (((i:Int)+1)<(n:Int))=true:=by simp;omega
    clear hu hu1 hup hwr
    go_wp2
    go_region
    rw [half_or]
    go_wp2
    go_roundw
    case rel=>exact⟨i+1,by omega,by go_num,((HW.out.setCell _ _).setCell _ _).drew,HU.out⟩
    case measure=>simp [intOf];omega
   ·have HU:=Lh (show U32 B (wr.setCell ⟨g,o+i,none⟩ (.int .u32 (((dig N i:Nat):Int) / 2))) (.slice (some ⟨g,o,none⟩) n cap) n (halfF N (i+1))from hu1.congr fun j hj=>by
     have ht:=half_top HN.out (show i+1=n by omega)
     by_cases e:j=i
     ·subst e;simp only [if_true,halfF,if_pos (Nat.lt_succ_self j)];omega
     ·by_cases e2:j<i
      ·simp only [halfF,if_neg e,if_pos e2,if_pos (show j<i+1 by omega)]
      ·simp only [halfF,if_neg e,if_neg e2,if_neg (show ¬j<i+1 by omega)])
    have HW:=Lh hwr
    have hlb:decide (((i:Int)+1)<(n:Int))=false:=by simp;omega
    clear hu hu1 hup hwr hc1 hf1
    go_wp2
    go_roundw
    case rel=>exact⟨i+1,by omega,by go_num,HW.out.setCell _ _,HU.out⟩
    case measure=>simp [intOf];omega
  ·obtain rfl:i=n:=by omega
   have HU:=Lh (hu.congr (f':=dig (N / 2)) fun j hj=>if_pos hj)
   clear hu
   go_wp2
   go_end0
   exact⟨rfl,HU.out,hwr⟩
end Go.Proofs.YtfgmdhjmgdccdaaGreat
namespace Go.Proofs.YtfgmdhjmgdccdaaGreat
open Go.RowKit Gus
abbrev winF (F:Nat→Nat) (o:Nat):Nat→Nat:=fun t=>F (o+t)
abbrev lessF (F v:Nat→Nat) (n d o i:Nat):Nat→Nat:=fun j=>if o≤j∧j<o+i then knU (winF F o) v n d (j - o)else F j
theorem lessF_zero (F v:Nat→Nat) (n d o j:Nat):F j=lessF F v n d o 0 j:=by
 rw [lessF,if_neg (by omega)]
theorem lessF_at (F v:Nat→Nat) (n d o i:Nat):lessF F v n d o i (o+i)=winF F o i:=by
 rw [lessF,if_neg (by omega)]
theorem lessF_next (F v:Nat→Nat) (n d o i j:Nat):(if j=o+i then knU (winF F o) v n d i else lessF F v n d o i j)=lessF F v n d o (i+1) j:=by
 by_cases e:j=o+i
 ·subst e;simp only [lessF,if_true,if_pos (show o≤o+i∧o+i<o+(i+1) by omega),Nat.add_sub_cancel_left]
 ·by_cases e2:o≤j∧j<o+i
  ·simp only [lessF,if_neg e,if_pos e2,if_pos (show o≤j∧j<o+(i+1) by omega)]
  ·simp only [lessF,if_neg e,if_neg e2,if_neg (show ¬(o≤j∧j<o+(i+1)) by omega)]
theorem lsY_in {d:Nat} {v:Nat→Nat} {n i:Nat} (h:i<n):lsY d v n i=(lsC d v i+d*v i) % 4294967296:=by
 unfold lsY;rw [if_pos h];rfl
theorem lsY_top {d:Nat} {v:Nat→Nat} {n:Nat}:lsY d v n n=lsC d v n:=by unfold lsY;rw [if_neg (Nat.lt_irrefl n)]
theorem lsC_succ (d:Nat) (v:Nat→Nat) (i:Nat):lsC d v (i+1)=(lsC d v i+d*v i) / 4294967296:=rfl
def LessPost (w:World) (B g o n N cap d:Nat) (F v:Nat→Nat) (e:Ending) (w':World):Prop:=
 e= .returned (.bool (decide (knL (winF F o) v n d=1)))∧U32 B w' (.slice (some ⟨g,0,none⟩) N cap) N (lessF F v n d o (n+1))∧Wr g w w'
set_option maxRecDepth 100000 in
set_option maxHeartbeats 1000000 in
theorem nats_less {B B' g o n N cap cap' d:Nat} {V:Value} {F v:Nat→Nat} {w:World} (hn:n≤549755813888) (hN:o+n<N) (hcap:n+1≤cap') (hu:U32 B w (.slice (some ⟨g,0,none⟩) N cap) N F) (hv:U32 B' w V n v)
  (hne:0<n→V.ownBlock≠some g) (hul:∀i,F i<4294967296) (hvl:∀i,v i<4294967296) (hd:d<4294967296):
  Calls Tryz.prog 193 #[.slice (some ⟨g,o,none⟩) (n+1) cap',V,.int .u64 d] w (LessPost w B g o n N cap d F v):=by
 obtain ⟨Y,cy,rfl,hcy,hv⟩:=hv.open
 have HU:=Lh hu
 have HV:=Lh hv
 have HNE:=Lh hne
 have HUL:=Lh (show ∀i,winF F o i<4294967296 from fun i=>hul _)
 have HVL:=Lh hvl
 clear hu hv hne hul hvl
 go_enter Tryz.func193,Tryz.ntmps193
 go_wp2
 go_loopw [7,8,14] (fun c l t wr=> ∃i:Nat,i≤n∧t= .int .i64 i∧c= .int .u64 (lsC d v i)∧l= .int .u32 (sbL (winF F o) (lsY d v n) i)∧Wr g w wr∧U32 B wr (.slice (some ⟨g,0,none⟩) N cap) N (lessF F v n d o i)) (fun _ _ t _=>n - (intOf t).toNat)
 case atStart=>exact⟨0,Nat.zero_le _,rfl,rfl,rfl,Wr.refl _ _,HU.out.congr fun j _=>lessF_zero _ _ _ _ _ _⟩
 case round=>
  obtain ⟨i,hi,rfl,rfl,rfl,hwr,hu⟩:=hrel
  obtain ⟨hoc,hof,_⟩:=hu.at0 (k:=o+i) (by omega)
  rw [lessF_at]at hoc
  have hui:=HUL.out i
  have hst:=(hu.set0 (k:=o+i) (x:=knU (winF F o) v n d i) (by omega)).congr fun j _=>lessF_next F v n d o i j
  have hb1:=sbL_le (winF F o) (lsY d v n) i
  by_cases hlt:i<n
  ·obtain ⟨g2,o2,rfl,_,hg2,hvc,_⟩:=(HV.out.wr hwr HNE.out).at_ hlt
   have hvi:=HVL.out i
   have hci:lsC d v i<4294967296:=lsC_lt hd fun j _=>HVL.out j
   have hmul:=mul_word_le hd hvi
   have hmz:(0:Int)≤((d:Nat):Int)*((v i:Nat):Int):=by rw [←Int.natCast_mul];omega
   have hmi:((d:Nat):Int)*((v i:Nat):Int)≤18446744065119617025:=by rw [←Int.natCast_mul];omega
   have HST:=Lh hst
   have HW:=Lh hwr
   have HYI:=Lh (lsY_in (d:=d) (v:=v) hlt)
   have HLS:=Lh (show sbL (winF F o) (lsY d v n) (i+1)=bor32 (winF F o i) (lsY d v n i) (sbL (winF F o) (lsY d v n) i)from rfl)
   have HKN:=Lh (show knU (winF F o) v n d i=(winF F o i+8589934592 - lsY d v n i - sbL (winF F o) (lsY d v n) i) % 4294967296 from rfl)
   clear hu hst hwr hmul
   generalize hK:knU (winF F o) v n d i=K at *
   generalize hL:sbL (winF F o) (lsY d v n) (i+1)=L at *
   generalize winF F o i=ui at *
   generalize hl:sbL (winF F o) (lsY d v n) i=l at *
   go_wp2_with fail
   refine(bits_Sub32 (x:=ui) (y:=(lsC d v i+d*v i) % 4294967296) (c:=l) hui (Nat.mod_lt _ (by omega)) hb1 _).mono ?_
   rintro e w' ⟨rfl,rfl⟩
   rw [←HYI.out,←HKN.out,←HLS.out]
   go_wp2
   go_roundw
   case rel=>exact⟨i+1,by omega,by go_num,by rw [lsC_succ];rfl,by rw [hL],HW.out.setCell _ _,HST.out⟩
   case measure=>simp [intOf];omega
  ·obtain rfl:i=n:=by omega
   have hci:lsC d v i<4294967296:=lsC_lt hd fun j _=>HVL.out j
   have hkl:knL (winF F o) v i d≤1:=sbL_le (winF F o) (lsY d v i) (i+1)
   have hyt:lsY d v i i=lsC d v i:=lsY_top
   have HKN:=Lh (show knU (winF F o) v i d i=(winF F o i+8589934592 - lsC d v i - sbL (winF F o) (lsY d v i) i) % 4294967296 by rw [←hyt];rfl)
   have HLB:=Lh (show knL (winF F o) v i d=bor32 (winF F o i) (lsC d v i) (sbL (winF F o) (lsY d v i) i) by rw [←hyt];rfl)
   have HST:=Lh hst
   have HW:=Lh hwr
   clear hu hst hwr hyt
   generalize hK:knU (winF F o) v i d i=K at *
   generalize hL:knL (winF F o) v i d=L at *
   generalize winF F o i=ui at *
   generalize hl:sbL (winF F o) (lsY d v i) i=l at *
   go_wp2_with fail
   refine(bits_Sub32 (x:=ui) (y:=lsC d v i) (c:=l) hui hci hb1 _).mono ?_
   rintro e w' ⟨rfl,rfl⟩
   rw [←HKN.out,←HLB.out]
   go_wp2
   all_goals
    go_ret
    refine⟨?_,HST.out,HW.out.setCell _ _⟩
    rw [hL,show decide (L=1)=decide (0<L) by rw [decide_eq_decide];omega]
    first|done|rfl|(simp [go_sem];done)
end Go.Proofs.YtfgmdhjmgdccdaaGreat
