/-
  Part 4 of the proof: NatE NatF.
-/
import Derived.Test.YtfgmdhjmgdccdaaGreatJ3
import Derived.Deep.DeepCutAuto
import Derived.Laws.CopyOwn
set_option linter.unusedSimpArgs false
set_option linter.unusedVariables false
set_option maxHeartbeats 8000000
namespace Go.Proofs.YtfgmdhjmgdccdaaGreat
open Go.RowKit Gus
structure Two (w:World) (g:Nat) (a b:Nat) (wx:World):Prop where
 gr:Gr g w wx
 size:g+1+1<wx.heap.size
 a0:wx.cell? ⟨g,0,none⟩=some (.int .u64 (lowN a))
 a1:wx.cell? ⟨g,1,none⟩=some (.string (bigS a))
 b0:wx.cell? ⟨g+1,0,none⟩=some (.int .u64 (lowN b))
 b1:wx.cell? ⟨g+1,1,none⟩=some (.string (bigS b))
 r0:wx.cell? ⟨g+1+1,0,none⟩=some (.int .u64 0)
 r1:wx.cell? ⟨g+1+1,1,none⟩=some (.string ⟨#[]⟩)
 f0:wx.frozen? ⟨g+1+1,0,none⟩=false
 f1:wx.frozen? ⟨g+1+1,1,none⟩=false
theorem Two.start (w:World) (a b:Nat):Two w w.heap.size a b (((w.alloc (.cells #[.int .u64 (lowN a),.string (bigS a)] 53)).alloc (.cells #[.int .u64 (lowN b),.string (bigS b)] 53)).alloc (.cells #[.int .u64 0,.string ⟨#[]⟩] 53)):=by
 refine⟨(((Gr.refl _ _).alloc (Nat.le_refl _) _).alloc (by simp) _).alloc (by simp;omega) _,by simp,?_,?_,?_,?_,?_,?_,?_,?_⟩<;>simp [go_sem]
theorem Two.next {w wx wy:World} {g a b B:Nat} (h:Two w g a b wx) (hg:Gr B wx wy) (hB:g+1+1<B):Two w g a b wy:=by
 have c:=hg.cells
 refine⟨h.gr.trans (hg.mono (by omega)),by have:=h.size;have:=hg.size;omega,?_,?_,?_,?_,?_,?_,?_,?_⟩
 ·rw [c.1 _ _ (by omega)];exact h.a0
 ·rw [c.1 _ _ (by omega)];exact h.a1
 ·rw [c.1 _ _ (by omega)];exact h.b0
 ·rw [c.1 _ _ (by omega)];exact h.b1
 ·rw [c.1 _ _ (by omega)];exact h.r0
 ·rw [c.1 _ _ (by omega)];exact h.r1
 ·rw [c.2 _ _ (by omega)];exact h.f0
 ·rw [c.2 _ _ (by omega)];exact h.f1
theorem U32.set {B:Nat} {w:World} {g o n cap k x:Nat} {f:Nat→Nat} (h:U32 B w (.slice (some ⟨g,o,none⟩) n cap) n f) (hk:k<n):
  U32 B (w.setCell ⟨g,o+k,none⟩ (.int .u32 x)) (.slice (some ⟨g,o,none⟩) n cap) n (fun j=>if j=k then x else f j):=by
 obtain ⟨A,cp,hv,hc,h⟩:=h
 cases hv
 obtain ⟨g',o',hA,hB,hg,hj⟩:=h (by omega)
 cases hA
 refine⟨_,cap,rfl,hc,fun _=>⟨g,o,rfl,hB,by simpa [World.setCell] using hg,fun j hjn=>⟨?_,by rw [World.frozen?_setCell];exact(hj j hjn).2⟩⟩⟩
 rw [cell_set _ (hj k hk).1]
 by_cases e:j=k
 ·subst e;rw [if_pos ⟨rfl,rfl⟩];simp
 ·rw [if_neg (by omega)];simp only [if_neg e];exact(hj j hjn).1
theorem U32.set0 {B:Nat} {w:World} {g n cap k x:Nat} {f:Nat→Nat} (h:U32 B w (.slice (some ⟨g,0,none⟩) n cap) n f) (hk:k<n):
  U32 B (w.setCell ⟨g,k,none⟩ (.int .u32 x)) (.slice (some ⟨g,0,none⟩) n cap) n (fun j=>if j=k then x else f j):=by
 have:=h.set (x:=x) hk
 rwa [Nat.zero_add]at this
theorem U32.at0 {B:Nat} {w:World} {g n cap k:Nat} {f:Nat→Nat} (h:U32 B w (.slice (some ⟨g,0,none⟩) n cap) n f) (hk:k<n):
  w.cell? ⟨g,k,none⟩=some (.int .u32 (f k))∧w.frozen? ⟨g,k,none⟩=false∧g<w.heap.size:=by
 obtain ⟨g',o,e,_,hg,hc,hf⟩:=h.at_ hk
 cases e
 rw [Nat.zero_add]at hc hf
 exact⟨hc,hf,hg⟩
theorem U32.far {B:Nat} {w:World} {v:Value} {n:Nat} {f:Nat→Nat} {p:Addr} (h:U32 B w v n f) (u:Value) (hp:0<n→v.ownBlock≠some p.block):U32 B (w.setCell p u) v n f:=by
 obtain ⟨A,cp,rfl,hc,h⟩:=h
 refine⟨A,cp,rfl,hc,fun hn=>?_⟩
 obtain ⟨g,o,rfl,hB,hg,hj⟩:=h hn
 refine⟨g,o,rfl,hB,by simpa [World.setCell] using hg,fun j hjn=>⟨?_,by rw [World.frozen?_setCell];exact(hj j hjn).2⟩⟩
 rw [World.cell?_setCell_other w p _ u (fun e=>hp hn (by subst e;rfl))]
 exact(hj j hjn).1
theorem U32.lt {B:Nat} {w:World} {v:Value} {n:Nat} {f:Nat→Nat} (h:U32 B w v n f) (k:Nat) (hn:0<n) (hk:v.ownBlock=some k):k<w.heap.size:=by
 obtain ⟨A,cap,rfl,_,h⟩:=h
 obtain ⟨g,o,rfl,_,hg,_⟩:=h hn
 simp [Value.ownBlock]at hk
 omega
theorem U32.ge {B:Nat} {w:World} {v:Value} {n:Nat} {f:Nat→Nat} (h:U32 B w v n f) (k:Nat) (hn:0<n) (hk:v.ownBlock=some k):B≤k:=by
 obtain ⟨A,cap,rfl,_,h⟩:=h
 obtain ⟨g,o,rfl,hB,_,_⟩:=h hn
 simp [Value.ownBlock]at hk
 omega
theorem U32.made {w:World} (n:Nat) (t:TypeId):U32 w.heap.size (w.alloc (.cells (madeCells #[.int .u32 0] n) t)) (.slice (some ⟨w.heap.size,0,none⟩) n n) n (fun _=>0):=by
 refine⟨_,n,rfl,Nat.le_refl _,fun _=>⟨w.heap.size,0,rfl,Nat.le_refl _,by simp,fun j hj=>⟨?_,World.frozen?_alloc_at _ _ _ _ rfl⟩⟩⟩
 rw [World.cell?_alloc_at _ _ _ _ rfl,Nat.zero_add,madeCells_one _ _ _ hj];rfl
theorem wpList_copyU {P:Program} {w0 w:World} {ops:Array Oper} {rest:List Oper} {o:Oper} {a:Act} {Q:Exit→Act→World→Prop} (hgd:o.guard=none) (d s:Operand) (dT sT:TypeId)
  (ho:o.op= .call {callee:= .builtin .copy,args:= #[d,s],argTypes:= #[dT,sT]}) (elem:TypeId) (hu:P.underlying dT=some (.slice elem)) (hsz:(P.info? elem).map (·.size)=some 1)
  (N n:Nat) (t:TypeId) (hd:a.eval d= .slice (some ⟨w0.heap.size,0,none⟩) N N) (hw:w=w0.alloc (.cells (madeCells #[.int .u32 0] N) t)) (A:Option Addr) (cap:Nat) (hs:a.eval s= .slice A n cap)
  {B:Nat} {f:Nat→Nat} (hx:U32 B w0 (.slice A n cap) n f) (hnN:n≤N)
  (h:∀w' v,U32 w0.heap.size w' (.slice (some ⟨w0.heap.size,0,none⟩) N N) N (fun j=>if j<n then f j else 0)→Gr w0.heap.size w0 w'→wpList P ops Q rest (a.put o.dst v) w'):wpList P ops Q (o :: rest) a w:=by
 subst hw
 have hmade:=U32.made (w:=w0) N t
 have hgr:Gr w0.heap.size w0 (w0.alloc (.cells (madeCells #[.int .u32 0] N) t)):=(Gr.refl _ _).alloc (Nat.le_refl _) _
 by_cases h0:n=0
 ·subst h0
  refine wpList_copy_nothing hgd d s dT sT ho elem hu hsz _ _ _ _ _ _ hd hs (by simp) ?_
  exact h _ _ (hmade.congr fun i _=>by simp) hgr
 ·obtain ⟨g,o',rfl,hB,hg,_⟩:=hx.at_ (k:=0) (by omega)
  have hh:(w0.alloc (.cells (madeCells #[.int .u32 0] N) t)).heap[w0.heap.size]? =some (.cells (madeCells #[.int .u32 0] N) t (0,0)):=heap_alloc_new w0 _
  have hcs:∀j v,((List.range n).map fun j=>Value.int .u32 (f j))[j]? =some v→(w0.alloc (.cells (madeCells #[.int .u32 0] N) t)).cell? ((⟨g,o',none⟩:Addr).add j)=some v:=by
   intro j v hj
   have hjn:j<n:=by
    rcases Nat.lt_or_ge j n with h|h
    ·exact h
    ·rw [List.getElem?_eq_none (by simpa using h)]at hj;cases hj
   obtain ⟨g2,o2,e,_,_,hc,_⟩:=hx.at_ hjn
   cases e
   have e2:(⟨g,o',none⟩:Addr).add j=⟨g,o'+j,none⟩:=by unfold Addr.add;split<;>simp_all
   rw [e2,World.cell?_alloc_past _ _ _ hg,hc]
   simp [List.getElem?_map,List.getElem?_range hjn]at hj
   rw [hj]
  refine wpList_copy_own hgd d s dT sT ho elem hu hsz w0.heap.size 0 N N ⟨g,o',none⟩ n cap hd hs (madeCells #[.int .u32 0] N) t hh ((List.range n).map fun j=>Value.int .u32 (f j)) (by simp;exact(Nat.min_eq_left hnN).symm) hcs
   (by simp [size_madeCells];omega) (fun v hv=>by simp at hv;obtain ⟨_,_,rfl⟩:=hv;rfl) ?_
  have hheap:=setRow_heap (w0.alloc (.cells (madeCells #[.int .u32 0] N) t)) w0.heap.size _ ((madeCells #[.int .u32 0] N).toList.take 0++(((List.range n).map fun j=>Value.int .u32 (f j))++(madeCells #[.int .u32 0] N).toList.drop (0+((List.range n).map fun j=>Value.int .u32 (f j)).length))).toArray t (0,0) hh
  refine h _ _ ⟨_,N,rfl,Nat.le_refl _,fun _=>⟨w0.heap.size,0,rfl,Nat.le_refl _,by simp,fun j hj=>⟨?_,by unfold World.frozen?;simp only at hheap ⊢;rw [hheap];simp⟩⟩⟩ (hgr.trans ⟨rfl,rfl,rfl,Nat.le_refl _,by simp,fun k hk=>setRow_other _ _ _ _ (by omega)⟩)
  rw [cell_of_row _ _ _ _ _ _ hheap,Nat.zero_add]
  simp only [List.take_zero,List.nil_append,List.getElem?_toArray,List.length_map,List.length_range,Nat.zero_add]
  by_cases hjn:j<n
  ·rw [List.getElem?_append_left (by simpa using hjn),if_pos hjn,List.getElem?_map,List.getElem?_range hjn];rfl
  ·rw [List.getElem?_append_right (by simp;omega),if_neg hjn,List.getElem?_drop]
   have e:(madeCells #[Value.int .u32 0] N).toList[n+(j - ((List.range n).map fun j=>Value.int .u32 (f j)).length)]? =(madeCells #[Value.int .u32 0] N)[j]? :=by
    rw [Array.getElem?_toList];congr 1;simp;omega
   rw [e,madeCells_one _ _ _ hj];rfl
theorem natV_small {n:Nat} (h:n<18446744073709551616):natV n= .agg #[.int .u64 n,.string ⟨#[]⟩]:=by
 rw [natV,lowN_small h,bigS_small h]
set_option maxHeartbeats 400000 in
theorem nats_Add_small {a b:Nat} (w:World) (h:a+b<18446744073709551616):
  Calls Tryz.prog 125 #[natV a,natV b] w (Ret w (natV (a+b))):=by
 have hadd:=bits_Add64 a b (by omega) (by omega)
 have e1:(a+b) % 18446744073709551616=a+b:=Nat.mod_eq_of_lt h
 have e2:(a+b) / 18446744073709551616=0:=Nat.div_eq_of_lt h
 rw [e1,e2]at hadd
 rw [natV_small (n:=a) (by omega),natV_small (n:=b) (by omega),natV_small h]
 clear h e1 e2
 go_enter Tryz.func125,Tryz.ntmps125
 go_wp2_with (simp only [hadd])
 have e:((a:Int)+(b:Int))=((a+b:Nat):Int):=by omega
 rw [e]
 exact bodyPost_ret (v:= .agg #[.int .u64 ((a+b:Nat):Int),.string ⟨#[]⟩]) (by simp [results,Tryz.results125,go_sem]) rfl ⟨rfl,(((Gr.refl _ _).alloc (Nat.le_refl _) _).alloc (by simp) _).alloc (by simp;omega) _⟩
structure AddW (w:World) (a b:Nat) (x y:Value) (wx:World):Prop where
 two:Two w w.heap.size a b wx
 x:U32 (w.heap.size+1+1+1) wx x (wl a) (dig a)
 y:U32 (w.heap.size+1+1+1) wx y (wl b) (dig b)
theorem AddW.made {w W w1 w2:World} {a b:Nat} {x y:Value} (h:Two w w.heap.size a b W) (h1:U32 W.drew.heap.size w1 x (wl a) (dig a)) (g1:Gr W.drew.heap.size W.drew w1)
  (h2:U32 w1.heap.size w2 y (wl b) (dig b)) (g2:Gr w1.heap.size w1 w2):AddW w a b x y w2:=by
 have hs:=h.size
 have h':Two w w.heap.size a b W.drew:=h.next (B:=W.heap.size) ((Gr.refl _ _).drew) hs
 have hd:W.drew.heap.size=W.heap.size:=rfl
 have hs1:=g1.size
 exact⟨(h'.next g1 (by omega)).next g2 (by omega),(h1.mono (by omega)).gr g2 (Nat.le_refl _),h2.mono (by omega)⟩
def AddP (w:World) (a b:Nat) (x y:Value) (wx:World):Prop:=
 ∃p q,p+q=a+b∧wl q≤wl p∧wl p≤549755813888∧Two w w.heap.size a b wx∧U32 (w.heap.size+1+1+1) wx x (wl p) (dig p)∧U32 (w.heap.size+1+1+1) wx y (wl q) (dig q)
structure AddL (wc wr:World) (p q n i:Nat):Prop where
 gr:Gr wc.heap.size wc wr
 out:U32 wc.heap.size wr (.slice (some ⟨wc.heap.size,0,none⟩) n n) n (fun j=>if j<i then adU (dig p) (dig q) j else dig p j)
theorem AddL.step {wc wr:World} {p q n i:Nat} (h:AddL wc wr p q n i) (hi:i<n):AddL wc (wr.setCell ⟨wc.heap.size,i,none⟩ (.int .u32 ((dig p i+dig q i+adC (dig p) (dig q) i) % 4294967296:Nat))) p q n (i+1):=by
 refine⟨h.gr.setCell (Nat.le_refl _) _,(h.out.set0 hi).congr fun j hj=>?_⟩
 by_cases e:j=i
 ·subst e;simp [adU]
 ·by_cases e2:j<i
  ·simp only [if_neg e,if_pos e2,if_pos (show j<i+1 by omega)]
  ·simp only [if_neg e,if_neg e2,if_neg (show ¬j<i+1 by omega)]
theorem add_value {p q:Nat} (h:wl q≤wl p):vf (adU (dig p) (dig q)) (wl p+1)=p+q:=by
 have h1:=vf_ad (dig p) (dig q) (wl p+1)
 have hp:=lt_pow_wl p
 have hq:q<4294967296 ^ wl p:=(wl_le_iff q (wl p)).1 h
 have e:4294967296 ^ (wl p+1)=4294967296 ^ wl p*4294967296:=pow_succ32 _
 rw [vf_dig,vf_dig,Nat.mod_eq_of_lt (by rw [e];omega),Nat.mod_eq_of_lt (by rw [e];omega)]at h1
 rcases Nat.eq_zero_or_pos (adC (dig p) (dig q) (wl p+1))with h0|h0
 ·rw [h0]at h1;omega
 ·exfalso
  have:1*4294967296 ^ (wl p+1)≤adC (dig p) (dig q) (wl p+1)*4294967296 ^ (wl p+1):=Nat.mul_le_mul_right _ h0
  rw [e]at this h1
  omega
set_option maxRecDepth 100000 in
set_option maxHeartbeats 1000000 in
theorem nats_Add_slow {a b:Nat} (w:World) (ha:wl a≤549755813888) (hb:wl b≤549755813888) (h:18446744073709551616≤a∨18446744073709551616≤b∨(a<18446744073709551616∧b<18446744073709551616∧18446744073709551616≤a+b)):
  Calls Tryz.prog 125 #[natV a,natV b] w (Ret w (natV (a+b))):=by
 have h0:=Lh (Two.start w a b)
 obtain ⟨i0,hi,hz0,hz1,hz2⟩:=info_parts info_u32
 have hmk:∀(n:Nat),n≤549755813888→∀W:World,(Instr.makeSlice 210 (.int .i64 ((n:Int)+1)) (.int .i64 ((n:Int)+1))).run Tryz.prog W =
   .ok (.slice (some ⟨W.heap.size,0,none⟩) (n+1) (n+1)) (W.alloc (.cells (madeCells #[.int .u32 0] (n+1)) 78)):=by
  intro n hn W
  have e:((n:Int)+1)=((n+1:Nat):Int):=by omega
  rw [e,run_make_rowN 210 78 i0 _ Tryz.underlying210 hi hz0 .i64 .i64 (n+1) (n+1) (Nat.le_refl _) (by rw [hz2];omega) (by omega) W,hz1,Nat.mul_one]
  rfl
 have HMK:=Lh hmk
 clear hmk hi hz0 hz1 hz2
 have hab:((bigS a).toList.isEmpty=false)∨((bigS a).toList.isEmpty=true∧(bigS b).toList.isEmpty=false)∨((bigS a).toList.isEmpty=true∧(bigS b).toList.isEmpty=true∧
   ∃s:Nat,∀w:World,(callFunc 167 #[.int .u64 (lowN a),.int .u64 (lowN b),.int .u64 0]).run Tryz.prog w= .ok (.value (.tuple #[.int .u64 s,.int .u64 1])) w):=by
  rcases Nat.lt_or_ge a 18446744073709551616 with h1|h1
  ·rcases Nat.lt_or_ge b 18446744073709551616 with h2|h2
   ·refine .inr (.inr ⟨by rw [big_isEmpty,decide_eq_true h1],by rw [big_isEmpty,decide_eq_true h2],(a+b) % 18446744073709551616,?_⟩)
    have hadd:=bits_Add64 a b (by omega) (by omega)
    have e2:(a+b) / 18446744073709551616=1:=by omega
    rw [e2]at hadd
    rw [lowN_small h1,lowN_small h2]
    exact hadd
   ·exact .inr (.inl ⟨by rw [big_isEmpty,decide_eq_true h1],big_false (by omega)⟩)
  ·exact .inl (big_false (by omega))
 clear h
 unfold natV
 rcases hab with hab|⟨hab,hab2⟩|⟨hab,hab2,sum,hadd⟩
 all_goals
  go_enter Tryz.func125,Tryz.ntmps125
  go_upto_region 5 with(simp only [hadd])
  go_cut [7,8] (fun x y wx=>AddW w a b x y wx)
  case first=>
   go_region_held3 (fun w'=>w'.cell? ⟨w.heap.size,0,none⟩=some (.int .u64 (lowN a))∧w'.cell? ⟨w.heap.size,1,none⟩=some (.string (bigS a))∧w'.cell? ⟨w.heap.size+1,0,none⟩=some (.int .u64 (lowN b))∧w'.cell? ⟨w.heap.size+1,1,none⟩=some (.string (bigS b)))
    (first|(simp [go_sem, *];done))
    (first
     | (go_at_call_of 124 (Value.agg #[.int .u64 (lowN a),.string (bigS a)]);refine(nats_words a _ (by omega)).mono ?_;rintro e w1 ⟨v1,rfl,hv1,hg1⟩;have hz1:w.heap.size+1<w1.heap.size:=(by have:=hg1.size;(try simp at this);omega);have hy1:w.heap.size<w1.heap.size:=(by omega);obtain ⟨hc1,hf1⟩:=hg1.cells;have HV1:=Lh hv1;have HG1:=Lh hg1;clear hv1 hg1)
     | (go_at_call_of 124 (Value.agg #[.int .u64 (lowN b),.string (bigS b)]);refine(nats_words b _ (by omega)).mono ?_;rintro e w2 ⟨v2,rfl,hv2,hg2⟩;have hz2:w.heap.size+1<w2.heap.size:=(by have:=hg2.size;(try simp at this);omega);have hy2:w.heap.size<w2.heap.size:=(by omega);obtain ⟨hc2,hf2⟩:=hg2.cells;have HV2:=Lh hv2;have HG2:=Lh hg2;clear hv2 hg2))
   go_wp2_with fail
   go_meet
   exact AddW.made (Two.start w a b) HV1.out HG1.out HV2.out HG2.out
  case rest=>
   obtain ⟨htwo,hx,hy⟩:=hcut
   obtain ⟨X,cx,rfl,hcx,hx⟩:=hx.open
   obtain ⟨Y,cy,rfl,hcy,hy⟩:=hy.open
   have HT:=Lh htwo
   have HX:=Lh hx
   have HY:=Lh hy
   clear htwo hx hy
   go_upto_if 41 with fail
   go_cut [7,8] (fun x y wx=>AddP w a b x y wx)
   case first=>
    by_cases hlt:wl a<wl b
    ·go_wp2_with fail
     go_meet
     exact⟨b,a,Nat.add_comm _ _,by omega,hb,HT.out,HY.out,HX.out⟩
    ·go_wp2_with fail
     go_meet
     exact⟨a,b,rfl,by omega,ha,HT.out,HX.out,HY.out⟩
   case rest=>
    clear HT HX HY hcx hcy
    obtain ⟨p,q,hpq,hqp,hp,htwo,hx,hy⟩:=hcut
    obtain ⟨X,cx,rfl,hcx,hx⟩:=hx.open
    obtain ⟨Y,cy,rfl,hcy,hy⟩:=hy.open
    have HT:=Lh htwo
    have HX:=Lh hx
    have HY:=Lh hy
    have HPQ:=Lh hpq
    have hmk:=HMK.out (wl p) hp
    have hsz1:=htwo.size
    clear htwo hx hy hpq
    go_wp2_with (with_reducible refine wpList_copyU rfl (.tmp 48) (.tmp 49) 210 210 rfl 78 Tryz.underlying210 (by kernel_rfl) (wl p+1) (wl p) 78 rfl rfl X cx rfl HX.out (by omega) ?_;intro w3 v3 hout hg3;have HO3:=Lh hout;have HG3:=Lh hg3;clear hout hg3)
    go_loopw [10,53] (fun c s wr=> ∃i:Nat,i≤wl p+1∧s= .int .i64 i∧c= .int .u32 (adC (dig p) (dig q) i)∧AddL wc wr p q (wl p+1) i) (fun _ s _=>wl p+1 - (intOf s).toNat)
    case atStart=>exact⟨0,Nat.zero_le _,rfl,rfl,HG3.out,HO3.out.congr fun j _=>by
     simp only [if_neg (Nat.not_lt_zero j)]
     by_cases e:j<wl p
     ·rw [if_pos e]
     ·rw [if_neg e,dig_of_ge (by omega)]⟩
    case round=>
     obtain ⟨i,hi,rfl,rfl,hl⟩:=hrel
     by_cases hlt:i<wl p+1
     ·obtain ⟨hoc,hof,hog⟩:=hl.out.at0 hlt
      simp only [if_neg (Nat.lt_irrefl i)]at hoc
      have hc1:=adC_le (u:=dig p) (v:=dig q) (n:=i) (fun j _=>dig_lt _ _) (fun j _=>dig_lt _ _)
      have hst:=hl.step hlt
      by_cases hq:i<wl q
      ·obtain ⟨g,o,rfl,_,hg,hyc,_⟩:=HY.out.at_ hq
       have hyc:=(hl.gr.cell (p:=⟨g,o+i,none⟩) hg).trans hyc
       have HL:=Lh hst
       clear hl hst
       go_wp2_with (go_at_call 168;refine(bits_Add32 (dig_lt p i) (dig_lt q i) hc1 _).mono ?_;rintro e w' ⟨rfl,rfl⟩)
       go_roundw
       case rel=>exact⟨i+1,by omega,by go_num,rfl,HL.out⟩
       case measure=>simp [intOf];omega
      ·have hz:dig q i=0:=dig_of_ge (by omega)
       have hst2:=hst
       rw [hz]at hst2
       have HL:=Lh hst2
       have HZ:=Lh hz
       clear hl hst hst2 hz
       go_wp2_with (go_at_call 168;refine(bits_Add32 (y:=0) (dig_lt p i) (by omega) hc1 _).mono ?_;rintro e w' ⟨rfl,rfl⟩)
       go_roundw
       case rel=>
        have e:adC (dig p) (dig q) (i+1)=(dig p i+0+adC (dig p) (dig q) i) / 4294967296:=by
         show(dig p i+dig q i+adC (dig p) (dig q) i) / 4294967296=_
         rw [HZ.out]
        exact⟨i+1,by omega,by go_num,by rw [e];rfl,HL.out⟩
       case measure=>simp [intOf];omega
     ·obtain rfl:i=wl p+1:=by omega
      have hout:=hl.out.congr (f':=adU (dig p) (dig q)) (fun j hj=>if_pos hj)
      have HOUT:=Lh hout
      have HL:=Lh hl
      clear hl hout
      go_wp2_with fail
      refine(nats_of (fun j _=>adU_lt _ _ _) (by omega) HOUT.out).mono ?_
      rintro e w4 ⟨rfl,hg4⟩
      rw [add_value hqp,HPQ.out]
      have ht3:=HT.out.next HL.out.gr (by omega)
      have ht4:=ht3.next hg4 (by have:=ht3.size;omega)
      obtain ⟨e0,e1,e2,e3⟩:=set2 (.int .u64 (lowN (a+b))) (.string (bigS (a+b))) ht4.r0 ht4.r1
      have r0:=ht4.r0
      have r1:=ht4.r1
      have f0:=ht4.f0
      have f1:=ht4.f1
      have HT4:=Lh ht4
      clear ht3 ht4 hg4
      go_wp2
      exact bodyPost_ret (v:= .agg #[.int .u64 (lowN (a+b)),.string (bigS (a+b))]) (by simp [results,Tryz.results125,go_sem,e2,e3]) rfl ⟨rfl,(HT4.out.gr.setCell (by simp;omega) _).setCell (by simp;omega) _⟩
theorem nats_Add (a b:Nat) (w:World) (ha:wl a≤549755813888) (hb:wl b≤549755813888):
  Calls Tryz.prog 125 #[natV a,natV b] w (Ret w (natV (a+b))):=by
 rcases Nat.lt_or_ge (a+b) 18446744073709551616 with h|h
 ·exact nats_Add_small w h
 ·exact nats_Add_slow w ha hb (by omega)
end Go.Proofs.YtfgmdhjmgdccdaaGreat
namespace Go.Proofs.YtfgmdhjmgdccdaaGreat
open Go.RowKit Gus
structure SubW (w:World) (a b:Nat) (x y:Value) (M:Nat) (wx:World):Prop where
 two:Two w w.heap.size a b wx
 ux:U32 (w.heap.size+1+1+1) wx x (wl a) (dig a)
 uy:U32 M wx y (wl b) (dig b)
 low:w.heap.size+1+1+1≤M
 far:∀k,0<wl a→x.ownBlock=some k→k<M
theorem SubW.made {w W w1 w2:World} {a b:Nat} {x y:Value} (h:Two w w.heap.size a b W) (h1:U32 W.drew.heap.size w1 x (wl a) (dig a)) (g1:Gr W.drew.heap.size W.drew w1)
  (h2:U32 w1.heap.size w2 y (wl b) (dig b)) (g2:Gr w1.heap.size w1 w2):SubW w a b x y w1.heap.size w2:=by
 have hs:=h.size
 have h':Two w w.heap.size a b W.drew:=h.next (B:=W.heap.size) ((Gr.refl _ _).drew) hs
 have hd:W.drew.heap.size=W.heap.size:=rfl
 have hs1:=g1.size
 exact⟨(h'.next g1 (by omega)).next g2 (by omega),(h1.mono (by omega)).gr g2 (Nat.le_refl _),h2,by omega,h1.lt⟩
structure SubL (w wr:World) (a b g o cap:Nat) (y:Value) (M i:Nat):Prop where
 two:Two w w.heap.size a b wr
 out:U32 (w.heap.size+1+1+1) wr (.slice (some ⟨g,o,none⟩) (wl a) cap) (wl a) (fun j=>if j<i then sbU (dig a) (dig b) j else dig a j)
 y:U32 M wr y (wl b) (dig b)
 low:g<M
 base:w.heap.size+1+1+1≤g
theorem Two.set {w wx:World} {g a b:Nat} (h:Two w g a b wx) {p:Addr} (hp:g+1+1<p.block) (u:Value):Two w g a b (wx.setCell p u):=
 h.next (B:=p.block) ((Gr.refl _ _).setCell (Nat.le_refl _) u) hp
theorem SubL.step {w wr:World} {a b g o cap M i:Nat} {y:Value} (h:SubL w wr a b g o cap y M i) (hi:i<wl a):
  SubL w (wr.setCell ⟨g,o+i,none⟩ (.int .u32 ((dig a i+8589934592 - dig b i - sbL (dig a) (dig b) i) % 4294967296:Nat))) a b g o cap y M (i+1):=by
 refine⟨h.two.set (by have:=h.base;simp;omega) _,(h.out.set hi).congr fun j hj=>?_,h.y.far _ (fun hn e=>by have:=h.y.ge _ hn e;have:=h.low;simp at *;omega),h.low,h.base⟩
 by_cases e:j=i
 ·subst e;simp [sbU]
 ·by_cases e2:j<i
  ·simp only [if_neg e,if_pos e2,if_pos (show j<i+1 by omega)]
  ·simp only [if_neg e,if_neg e2,if_neg (show ¬j<i+1 by omega)]
theorem sub_value {a b:Nat} (h:b≤a):vf (sbU (dig a) (dig b)) (wl a)=a - b:=by
 have h1:=vf_sb (u:=dig a) (v:=dig b) (wl a) (fun i _=>dig_lt _ _) (fun i _=>dig_lt _ _)
 have ha:=lt_pow_wl a
 rw [vf_dig,vf_dig,Nat.mod_eq_of_lt ha,Nat.mod_eq_of_lt (by omega)]at h1
 have hl:=sbL_le (dig a) (dig b) (wl a)
 have hv:vf (sbU (dig a) (dig b)) (wl a)<4294967296 ^ wl a:=vf_lt fun i _=>sbU_lt _ _ _
 rcases(by omega:sbL (dig a) (dig b) (wl a)=0∨sbL (dig a) (dig b) (wl a)=1)with e|e
 ·rw [e]at h1;omega
 ·rw [e]at h1;omega
set_option maxRecDepth 100000 in
set_option maxHeartbeats 1000000 in
theorem nats_Sub_less {a b:Nat} (w:World) (ha:wl a≤549755813888) (hb:wl b≤549755813888) (h:a<b):
  Calls Tryz.prog 120 #[natV a,natV b] w (Ret w (.tuple #[natV 0,.bool false])):=by
 have hc:=cmpN_lt h
 have h0:=Lh (Two.start w a b)
 rw [natV_zero]
 unfold natV
 clear h
 go_enter Tryz.func120,Tryz.ntmps120
 go_wp2_with fail
 refine(nats_Cmp a b _ (by omega) (by omega)).mono ?_
 rintro e w1 ⟨rfl,hg⟩
 rw [hc]
 have ht:=h0.out.next hg (by simp)
 have r0:=ht.r0
 have r1:=ht.r1
 have f0:=ht.f0
 have f1:=ht.f1
 obtain ⟨e0,e1,e2,e3⟩:=set2 (.int .u64 0) (.string ⟨#[]⟩) r0 r1
 have HT:=Lh ht
 clear hg ht hc
 go_wp2
 exact bodyPost_ret (v:= .tuple #[.agg #[.int .u64 0,.string ⟨#[]⟩],.bool false]) (by simp [results,Tryz.results120,go_sem,e2,e3]) rfl ⟨rfl,(HT.out.gr.setCell (by simp;omega) _).setCell (by simp;omega) _⟩
set_option maxRecDepth 100000 in
set_option maxHeartbeats 1000000 in
theorem nats_Sub_small {a b:Nat} (w:World) (h:b≤a) (hs:a<18446744073709551616):
  Calls Tryz.prog 120 #[natV a,natV b] w (Ret w (.tuple #[natV (a - b),.bool true])):=by
 have hc:(0:Int)≤cmpN a b:=by unfold cmpN;rw [if_neg (by omega)];split<;>omega
 have h0:=Lh (Two.start w a b)
 have ha:=wl_lt64 hs
 have hb:=wl_lt64 (n:=b) (by omega)
 have hba:=big_isEmpty a
 rw [decide_eq_true hs]at hba
 have hla:=lowN_small hs
 have hlb:=lowN_small (n:=b) (by omega)
 have h1:lowN b≤lowN a:=by omega
 have h2:lowN a≤18446744073709551615:=by omega
 rw [natV_small (n:=a - b) (by omega)]
 have HLA:=Lh hla
 have HLB:=Lh hlb
 unfold natV
 clear hla hlb hs h
 go_enter Tryz.func120,Tryz.ntmps120
 go_wp2_with fail
 refine(nats_Cmp a b _ (by omega) (by omega)).mono ?_
 rintro e w1 ⟨rfl,hg⟩
 have ht:=h0.out.next hg (by simp)
 have a0:=ht.a0
 have a1:=ht.a1
 have b0:=ht.b0
 have r0:=ht.r0
 have r1:=ht.r1
 have f0:=ht.f0
 have f1:=ht.f1
 obtain ⟨e0,e1,e2,e3⟩:=set2 (.int .u64 ((lowN a:Int) - (lowN b:Int))) (.string ⟨#[]⟩) r0 r1
 have HT:=Lh ht
 clear hg ht
 generalize cmpN a b=c at *
 go_wp2
 have e:((lowN a:Int) - (lowN b:Int))=((a - b:Nat):Int):=by have ea:=HLA.out;have eb:=HLB.out;omega
 rw [←e]
 exact bodyPost_ret (v:= .tuple #[.agg #[.int .u64 ((lowN a:Int) - (lowN b:Int)),.string ⟨#[]⟩],.bool true]) (by simp [results,Tryz.results120,go_sem,e2,e3]) rfl ⟨rfl,(HT.out.gr.setCell (by simp;omega) _).setCell (by simp;omega) _⟩
set_option maxRecDepth 100000 in
set_option maxHeartbeats 1000000 in
theorem nats_Sub_big {a b:Nat} (w:World) (ha:wl a≤549755813888) (h:b≤a) (hs:18446744073709551616≤a):
  Calls Tryz.prog 120 #[natV a,natV b] w (Ret w (.tuple #[natV (a - b),.bool true])):=by
 have hc:(0:Int)≤cmpN a b:=by unfold cmpN;rw [if_neg (by omega)];split<;>omega
 have hb:=wl_mono h
 have h0:=Lh (Two.start w a b)
 have hba:=big_false (n:=a) (by omega)
 have h3:=wl_big hs
 have HLE:=Lh h
 unfold natV
 clear hs h
 go_enter Tryz.func120,Tryz.ntmps120
 go_wp2_with fail
 refine(nats_Cmp a b _ (by omega) (by omega)).mono ?_
 rintro e w0 ⟨rfl,hg⟩
 have ht:=h0.out.next hg (by simp)
 have a0:=ht.a0
 have a1:=ht.a1
 have b0:=ht.b0
 have b1:=ht.b1
 have hs0:=ht.size
 have hy0:w.heap.size<w0.heap.size:=by omega
 have hz0:w.heap.size+1<w0.heap.size:=by omega
 have HT:=Lh ht
 clear hg ht h0
 generalize cmpN a b=c at *
 go_upto_region 5 with fail
 go_cut [6,7] (fun x y wx=> ∃M,SubW w a b x y M wx)
 case first=>
  go_region_held3 (fun w'=>w'.cell? ⟨w.heap.size,0,none⟩=some (.int .u64 (lowN a))∧w'.cell? ⟨w.heap.size,1,none⟩=some (.string (bigS a))∧w'.cell? ⟨w.heap.size+1,0,none⟩=some (.int .u64 (lowN b))∧w'.cell? ⟨w.heap.size+1,1,none⟩=some (.string (bigS b)))
   (first|(simp [go_sem, *];done))
   (first
    | (go_at_call_of 124 (Value.agg #[.int .u64 (lowN a),.string (bigS a)]);refine(nats_words a _ (by omega)).mono ?_;rintro e w1 ⟨v1,rfl,hv1,hg1⟩;have hz1:w.heap.size+1<w1.heap.size:=(by have:=hg1.size;(try simp at this);omega);have hy1:w.heap.size<w1.heap.size:=(by omega);obtain ⟨hc1,hf1⟩:=hg1.of_drew.cells;have HV1:=Lh hv1;have HG1:=Lh hg1;clear hv1 hg1)
    | (go_at_call_of 124 (Value.agg #[.int .u64 (lowN b),.string (bigS b)]);refine(nats_words b _ (by omega)).mono ?_;rintro e w2 ⟨v2,rfl,hv2,hg2⟩;have hz2:w.heap.size+1<w2.heap.size:=(by have:=hg2.size;(try simp at this);omega);have hy2:w.heap.size<w2.heap.size:=(by omega);obtain ⟨hc2,hf2⟩:=hg2.cells;have HV2:=Lh hv2;have HG2:=Lh hg2;clear hv2 hg2))
  go_wp2_with fail
  go_meet
  exact⟨_,SubW.made HT.out HV1.out HG1.out HV2.out HG2.out⟩
 case rest=>
  clear a0 a1 b0 b1 hs0
  obtain ⟨M,htwo,hx,hy,hM,hfar⟩:=hcut
  obtain ⟨X,cx,rfl,hcx,hx⟩:=hx.open
  obtain ⟨Y,cy,rfl,hcy,hy⟩:=hy.open
  obtain ⟨g,o,rfl,hgB,hgs,_⟩:=hx.at_ (k:=0) (by omega)
  have hst:SubL w wc a b g o cx (.slice Y (wl b) cy) M 0:=⟨htwo,hx.congr fun j _=>(if_neg (Nat.not_lt_zero j)).symm,hy,hfar g (by omega) rfl,hgB⟩
  have HST:=Lh hst
  clear htwo hx hy hst hfar
  go_wp2
  go_loopw [8,31] (fun c s wr=> ∃i:Nat,i≤wl a∧s= .int .i64 i∧c= .int .u32 (sbL (dig a) (dig b) i)∧SubL w wr a b g o cx (.slice Y (wl b) cy) M i) (fun _ s _=>wl a - (intOf s).toNat)
  case atStart=>exact⟨0,Nat.zero_le _,rfl,rfl,HST.out⟩
  case round=>
   obtain ⟨i,hi,rfl,rfl,hl⟩:=hrel
   by_cases hlt:i<wl a
   ·obtain ⟨g',o',e,_,hog,hoc,hof⟩:=hl.out.at_ hlt
    cases e
    simp only [if_neg (Nat.lt_irrefl i)]at hoc
    have hc1:=sbL_le (dig a) (dig b) i
    have hst:=hl.step hlt
    by_cases hq:i<wl b
    ·obtain ⟨g2,o2,rfl,_,hg,hyc,_⟩:=hl.y.at_ hq
     have HL:=Lh hst
     clear hl hst
     go_wp2_with (go_at_call 165;refine(bits_Sub32 (dig_lt a i) (dig_lt b i) hc1 _).mono ?_;rintro e w' ⟨rfl,rfl⟩)
     go_roundw
     case rel=>exact⟨i+1,by omega,by go_num,rfl,HL.out⟩
     case measure=>simp [intOf];omega
    ·have hz:dig b i=0:=dig_of_ge (by omega)
     have hst2:=hst
     rw [hz]at hst2
     have HL:=Lh hst2
     have HZ:=Lh hz
     clear hl hst hst2 hz
     go_wp2_with (go_at_call 165;refine(bits_Sub32 (y:=0) (dig_lt a i) (by omega) hc1 _).mono ?_;rintro e w' ⟨rfl,rfl⟩)
     go_roundw
     case rel=>
      have e:sbL (dig a) (dig b) (i+1)=bor32 (dig a i) 0 (sbL (dig a) (dig b) i):=by
       show(if dig a i<dig b i+sbL (dig a) (dig b) i then 1 else 0)=_
       rw [HZ.out];rfl
      exact⟨i+1,by omega,by go_num,by rw [e],HL.out⟩
     case measure=>simp [intOf];omega
   ·obtain rfl:i=wl a:=by omega
    have hout:=hl.out.congr (f':=sbU (dig a) (dig b)) (fun j hj=>if_pos hj)
    have HOUT:=Lh hout
    have HL:=Lh hl
    clear hl hout
    go_wp2_with fail
    refine(nats_of (fun j _=>sbU_lt _ _ _) (by omega) HOUT.out).mono ?_
    rintro e w4 ⟨rfl,hg4⟩
    rw [sub_value HLE.out]
    have ht4:=HL.out.two.next hg4 HL.out.two.size
    obtain ⟨e0,e1,e2,e3⟩:=set2 (.int .u64 (lowN (a - b))) (.string (bigS (a - b))) ht4.r0 ht4.r1
    have r0:=ht4.r0
    have r1:=ht4.r1
    have f0:=ht4.f0
    have f1:=ht4.f1
    have HT4:=Lh ht4
    clear ht4 hg4
    go_wp2
    exact bodyPost_ret (v:= .tuple #[.agg #[.int .u64 (lowN (a - b)),.string (bigS (a - b))],.bool true]) (by simp [results,Tryz.results120,go_sem,e2,e3]) rfl ⟨rfl,(HT4.out.gr.setCell (by simp;omega) _).setCell (by simp;omega) _⟩
theorem nats_Sub {a b:Nat} (w:World) (ha:wl a≤549755813888) (h:b≤a):
  Calls Tryz.prog 120 #[natV a,natV b] w (Ret w (.tuple #[natV (a - b),.bool true])):=by
 rcases Nat.lt_or_ge a 18446744073709551616 with hs|hs
 ·exact nats_Sub_small w h hs
 ·exact nats_Sub_big w ha h hs
end Go.Proofs.YtfgmdhjmgdccdaaGreat
