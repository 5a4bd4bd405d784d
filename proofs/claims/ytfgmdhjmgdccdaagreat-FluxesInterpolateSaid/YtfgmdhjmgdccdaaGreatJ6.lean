/-
  Part 6 of the proof: NatJ.
-/
import Derived.Test.YtfgmdhjmgdccdaaGreatJ5
import Derived.Test.YtfgmdhjmgdccdaaGreatShelf
import Derived.Deep.CutBlock
import Derived.Deep.CutRange
set_option linter.unusedSimpArgs false
set_option linter.unusedVariables false
set_option maxHeartbeats 8000000
namespace Go.Proofs.YtfgmdhjmgdccdaaGreat
open Go.RowKit Gus
theorem bitLen_bound:∀(x:Nat),x≠0→x<2 ^ 64→0<Lib.bitLen x∧x<2 ^ Lib.bitLen x:=by
 intro x
 induction x using Nat.strongRecOn with
 | _ x ih=>
  intro h0 hx
  rw [Lib.bitLen_half x h0 hx]
  by_cases h1:x / 2=0
  ·refine⟨by omega,?_⟩
   have:x=1:=by omega
   subst this
   rw [h1]
   decide
  ·have h:=(ih (x / 2) (by omega) h1 (by omega)).2
   refine⟨by omega,?_⟩
   rw [Nat.add_comm,Nat.pow_succ]
   omega
theorem bits_lz {x:Nat} (h0:x≠0) (h1:x<4294967296):∃s:Nat,s≤31∧(x+1)*2 ^ s≤4294967296∧∀w:World,Calls Tryz.prog 191 #[.int .u32 x] w fun e w'=>e= .returned (.int .i64 s)∧w'=w:=by
 obtain ⟨hp,hb⟩:=bitLen_bound x h0 (by omega)
 have hle:=Lib.bitLen_le x 32 (by omega) (by omega)
 refine⟨32 - Lib.bitLen x,by omega,?_,fun w=>?_⟩
 ·have h:(x+1)*2 ^ (32 - Lib.bitLen x)≤2 ^ Lib.bitLen x*2 ^ (32 - Lib.bitLen x):=Nat.mul_le_mul_right _ hb
  rw [←Nat.pow_add,show Lib.bitLen x+(32 - Lib.bitLen x)=32 by omega]at h
  exact h
 ·have h:=Tryz.bits_LeadingZeros32 (x:Int) w (by omega) (by omega)
  rw [Int.toNat_natCast]at h
  have e:(32 - (Lib.bitLen x:Int))=((32 - Lib.bitLen x:Nat):Int):=by omega
  rwa [e]at h
theorem shift_fits {b s n:Nat} (hn:wl b=n+1) (hs:(dig b n+1)*2 ^ s≤4294967296):b*2 ^ s<4294967296 ^ (n+1):=by
 have hb:b<4294967296 ^ (n+1):=hn ▸ lt_pow_wl b
 have hd:dig b n=b / 4294967296 ^ n:=by
  unfold dig
  refine Nat.mod_eq_of_lt ((Nat.div_lt_iff_lt_mul (pow_pos32 n)).2 ?_)
  rw [Nat.mul_comm,←pow_succ32];exact hb
 have h1:b<(dig b n+1)*4294967296 ^ n:=by
  rw [hd,Nat.mul_comm]
  exact Nat.lt_mul_div_succ b (pow_pos32 n)
 have h2:b*2 ^ s<(dig b n+1)*4294967296 ^ n*2 ^ s:=Nat.mul_lt_mul_of_pos_right h1 (Nat.two_pow_pos s)
 have h3:(dig b n+1)*4294967296 ^ n*2 ^ s=(dig b n+1)*2 ^ s*4294967296 ^ n:=by ac_rfl
 have h4:(dig b n+1)*2 ^ s*4294967296 ^ n≤4294967296*4294967296 ^ n:=Nat.mul_le_mul_right _ hs
 rw [pow_succ32,Nat.mul_comm (4294967296 ^ n)]
 omega
theorem start_fits {a b s m n:Nat} (ha:wl a+1=n+m) (hn:wl b=n) (hn0:0<n):a*2 ^ s / 4294967296 ^ m<b*2 ^ s:=by
 obtain ⟨p,rfl⟩:∃p,n=p+1:=⟨n - 1,by omega⟩
 have hb:4294967296 ^ p≤b:=by
  have:=pow_wl_le (n:=b) (by intro h;subst h;rw [wl_zero]at hn;omega)
  rw [hn]at this
  simpa using this
 have ha':a<4294967296 ^ p*4294967296 ^ m:=by
  rw [←Nat.pow_add,show p+m=wl a by omega]
  exact lt_pow_wl a
 refine(Nat.div_lt_iff_lt_mul (pow_pos32 m)).2 ?_
 have h1:a*2 ^ s<4294967296 ^ p*4294967296 ^ m*2 ^ s:=Nat.mul_lt_mul_of_pos_right ha' (Nat.two_pow_pos s)
 have h2:4294967296 ^ p*(4294967296 ^ m*2 ^ s)≤b*(4294967296 ^ m*2 ^ s):=Nat.mul_le_mul_right _ hb
 have h3:4294967296 ^ p*(4294967296 ^ m*2 ^ s)=4294967296 ^ p*4294967296 ^ m*2 ^ s:=by ac_rfl
 have h4:b*2 ^ s*4294967296 ^ m=b*(4294967296 ^ m*2 ^ s):=by ac_rfl
 omega
structure Round (Q i top u2 v1 v2:Nat):Prop where
 qt:dig Q i<4294967296
 q2:dig Q i*(v1*4294967296+v2)≤top*4294967296+u2
 q1:dig Q i*v1≤top
 v1p:0<v1
 v1l:v1<4294967296
 v2l:v2<4294967296
 u2l:u2<4294967296
 topl:top≤v1*4294967296+4294967295
 fin:∀d r,Guess top u2 v1 v2 (dig Q i) d r→(4294967296≤r∨d<4294967296∧d*v2≤r*4294967296+u2)→d<4294967296∧d≤dig Q i+1
theorem Round.make {X V Q i p:Nat} (hQ:X / V=Q) (hV0:0<V) (hV:V<4294967296 ^ (p+2)) (hw:wl V=p+2):
  Round Q i (luU X V (i+1) (i+(p+2))*4294967296+luU X V (i+1) (i+(p+1))) (luU X V (i+1) (i+p)) (dig V (p+1)) (dig V p):=by
 have hwin:=window (X:=X) (k:=i) (n:=p+2) (Nat.le_of_lt hV) hV0
 have ht3:=top3 (fun t=>luU X V (i+1) (i+t)) p
 have hv2:=top2 (dig V) p
 have hVv:vf (dig V) (p+2)=V:=by rw [vf_dig,Nat.mod_eq_of_lt hV]
 rw [hVv]at hv2
 have hq:=quot_dig X V i hV0
 rw [hQ]at hq
 have hu:∀t,luU X V (i+1) (i+t)<4294967296:=fun t=>luU_lt _ _ _ _
 have hlou:vf (fun t=>luU X V (i+1) (i+t)) p<4294967296 ^ p:=vf_lt fun t _=>hu t
 have hlo:vf (dig V) p<4294967296 ^ p:=vf_lt fun t _=>dig_lt _ _
 have hU:vf (fun t=>luU X V (i+1) (i+t)) (p+3)=((luU X V (i+1) (i+(p+2))*4294967296+luU X V (i+1) (i+(p+1)))*4294967296+luU X V (i+1) (i+p))*4294967296 ^ p+vf (fun t=>luU X V (i+1) (i+t)) p:=ht3
 have hW:vf (fun t=>luU X V (i+1) (i+t)) (p+3) / V=dig Q i:=by rw [show p+3=p+2+1 from rfl,hwin,hq]
 have h2:=quot_top hU hlou hv2
 rw [hW]at h2
 have hv1:dig V (p+1)≠0:=by
  have:=dig_top (n:=V) (by omega)
  rw [hw]at this
  exact this
 have htop:=top_le (u:=fun t=>luU X V (i+1) (i+t)) (v:=dig V) (n:=p) (fun t _=>dig_lt _ _) (fun t _=>hu t) (by
  rw [hVv]
  have e:vf (fun t=>luU X V (i+1) (i+(t+1))) (p+2)=vf (dig (X / 4294967296 ^ (i+1) % V)) (p+2):=vf_congr fun t _=>by
   unfold luU;rw [if_neg (by omega),show i+(t+1) - (i+1)=t by omega]
  show vf (fun t=>luU X V (i+1) (i+(t+1))) (p+2)<V
  have hr:X / 4294967296 ^ (i+1) % V<V:=Nat.mod_lt _ hV0
  rw [e,vf_dig,Nat.mod_eq_of_lt (by omega)]
  exact hr)
 refine⟨dig_lt _ _,h2,quot_top1 h2 (hu p),by omega,dig_lt _ _,dig_lt _ _,hu p,htop,?_⟩
 intro d r hg hend
 have hd:=guess_fits hg htop (hend.imp id (fun h=>h.1))
 refine⟨hd,?_⟩
 have:=guess_end (U:=vf (fun t=>luU X V (i+1) (i+t)) (p+3)) hg.sum hd (dig_lt _ _) (by omega) (hend.imp id (fun h=>h.2)) (by rw [hU];omega) hv2 hlo
 rwa [hW]at this
theorem round_end {X V Q i n d:Nat} (hQ:X / V=Q) (hV0:0<V) (hV:V<4294967296 ^ n) (hd:d<4294967296) (hge:dig Q i≤d) (hle:d≤dig Q i+1):
  (knL (winF (luU X V (i+1)) i) (dig V) n d=0→d=dig Q i∧∀j,lessF (luU X V (i+1)) (dig V) n d i (n+1) j=luU X V i j)∧
  (knL (winF (luU X V (i+1)) i) (dig V) n d=1→d - 1=dig Q i∧0<d∧
   ∀j,(if i≤j∧j<i+(n+1)then(if j - i<n then adU (knU (winF (luU X V (i+1)) i) (dig V) n d) (dig V) (j - i)else(knU (winF (luU X V (i+1)) i) (dig V) n d n+adC (knU (winF (luU X V (i+1)) i) (dig V) n d) (dig V) n) % 4294967296)else luU X V (i+1) j)=luU X V i j):=by
 have hwin:vf (winF (luU X V (i+1)) i) (n+1)=X / 4294967296 ^ (i+1) % V*4294967296+dig X i:=window (X:=X) (k:=i) (n:=n) (Nat.le_of_lt hV) hV0
 have hq:=quot_dig X V i hV0
 rw [hQ]at hq
 have hVv:vf (dig V) n=V:=by rw [vf_dig,Nat.mod_eq_of_lt hV]
 have hul:∀t,winF (luU X V (i+1)) i t<4294967296:=fun t=>luU_lt _ _ _ _
 rw [←hwin]at hq
 constructor
 ·intro h0
  obtain ⟨h1,h2⟩:=knuth_ok (fun t _=>hul t) (fun t _=>dig_lt V t) hd (by rw [hVv,hq];exact hge) (by rw [hVv];exact hV0) h0
  rw [hVv]at h1 h2
  refine⟨by rw [h1,hq],fun j=>?_⟩
  rw [luU_step (g:=knU (winF (luU X V (i+1)) i) (dig V) n d) (fun t _=>sbU_lt _ _ _) (by rw [h2,hwin]) (Nat.le_of_lt hV) hV0 j]
 ·intro h0
  obtain ⟨h1,h2⟩:=knuth_back (fun t _=>hul t) (fun t _=>dig_lt V t) hd (by rw [hVv,hq];exact hge) (by rw [hVv,hq];exact hle) (by rw [hVv];exact hV0) h0
  rw [hVv]at h1 h2
  refine⟨by rw [h1,hq];rfl,by omega,fun j=>?_⟩
  rw [luU_step (k:=i) (g:=fun t=>if t<n then adU (knU (winF (luU X V (i+1)) i) (dig V) n d) (dig V) t else(knU (winF (luU X V (i+1)) i) (dig V) n d n+adC (knU (winF (luU X V (i+1)) i) (dig V) n d) (dig V) n) % 4294967296) (fun t _=>by
   show(if t<n then _ else _)< _
   split
   ·exact adU_lt _ _ _
   ·omega) (by rw [h2,hwin]) (Nat.le_of_lt hV) hV0 j]
structure LongL (w wr:World) (gu gv gq n m V Q k:Nat) (f:Nat→Nat):Prop where
 gr:Gr w.heap.size w wr
 u:U32 w.heap.size wr (.slice (some ⟨gu,0,none⟩) (n+m) (n+m)) (n+m) f
 v:U32 w.heap.size wr (.slice (some ⟨gv,0,none⟩) n (n+1)) n (dig V)
 q:U32 w.heap.size wr (.slice (some ⟨gq,0,none⟩) m m) m (fun j=>if k≤j then dig Q j else 0)
 uv:gv≠gu
 uq:gq≠gu
 vq:gv≠gq
 bu:w.heap.size≤gu
 bq:w.heap.size≤gq
theorem LongL.drew {w wr:World} {gu gv gq n m V Q k:Nat} {f:Nat→Nat} (h:LongL w wr gu gv gq n m V Q k f):LongL w wr.drew gu gv gq n m V Q k f:=
 ⟨h.gr.drew,h.u.gr ((Gr.refl _ _).drew) (Nat.le_refl _),h.v.gr ((Gr.refl _ _).drew) (Nat.le_refl _),h.q.gr ((Gr.refl _ _).drew) (Nat.le_refl _),h.uv,h.uq,h.vq,h.bu,h.bq⟩
theorem LongL.drewN {w wr:World} {gu gv gq n m V Q k:Nat} {f:Nat→Nat} (h:LongL w wr gu gv gq n m V Q k f) (t:Nat):LongL w (wr.drewN t) gu gv gq n m V Q k f:=
 ⟨h.gr.drewN t,h.u.gr ((Gr.refl _ _).drewN t) (Nat.le_refl _),h.v.gr ((Gr.refl _ _).drewN t) (Nat.le_refl _),h.q.gr ((Gr.refl _ _).drewN t) (Nat.le_refl _),h.uv,h.uq,h.vq,h.bu,h.bq⟩
theorem LongL.congr {w wr:World} {gu gv gq n m V Q k:Nat} {f f':Nat→Nat} (h:LongL w wr gu gv gq n m V Q k f) (hf:∀j,f j=f' j):LongL w wr gu gv gq n m V Q k f':=
 ⟨h.gr,h.u.congr fun j _=>hf j,h.v,h.q,h.uv,h.uq,h.vq,h.bu,h.bq⟩
theorem LongL.wr_ {w wr w':World} {gu gv gq n m V Q k:Nat} {f f':Nat→Nat} (h:LongL w wr gu gv gq n m V Q k f) (hw:Wr gu wr w')
  (hu:U32 w.heap.size w' (.slice (some ⟨gu,0,none⟩) (n+m) (n+m)) (n+m) f'):LongL w w' gu gv gq n m V Q k f':=
 ⟨h.gr.trans (hw.toGr h.bu h.gr.size),hu,h.v.wr hw (fun _=>by have:=h.uv;simpa [Value.ownBlock] using this),h.q.wr hw (fun _=>by have:=h.uq;simpa [Value.ownBlock] using this),h.uv,h.uq,h.vq,h.bu,h.bq⟩
theorem LongL.setU {w wr:World} {gu gv gq n m V Q k:Nat} {f f':Nat→Nat} (h:LongL w wr gu gv gq n m V Q k f) {i x:Nat} (hi:i<n+m)
  (hf:∀j,(if j=i then x else f j)=f' j):LongL w (wr.setCell ⟨gu,i,none⟩ (.int .u32 x)) gu gv gq n m V Q k f':=
 h.wr_ ((Wr.refl _ _).setCell _ _) ((h.u.set0 hi).congr fun j _=>hf j)
theorem LongL.setQ {w wr:World} {gu gv gq n m V Q i:Nat} {f:Nat→Nat} (h:LongL w wr gu gv gq n m V Q (i+1) f) (hi:i<m):
  LongL w (wr.setCell ⟨gq,i,none⟩ (.int .u32 (dig Q i))) gu gv gq n m V Q i f:=
 ⟨h.gr.setCell h.bq _,h.u.wr ((Wr.refl gq _).setCell _ _) (fun _=>by have:=h.uq;simp [Value.ownBlock];omega),h.v.wr ((Wr.refl gq _).setCell _ _) (fun _=>by have:=h.vq;simpa [Value.ownBlock] using this),
  (h.q.set0 hi).congr fun j _=>by
   by_cases e:j=i
   ·subst e;simp
   ·by_cases e2:i≤j
    ·simp only [if_neg e,if_pos e2,if_pos (show i+1≤j by omega)]
    ·simp only [if_neg e,if_neg e2,if_neg (show ¬i+1≤j by omega)],
  h.uv,h.uq,h.vq,h.bu,h.bq⟩
def LongPost (w:World) (a b n m:Nat) (e:Ending) (w':World):Prop:=
 ∃gu gq,e= .returned (.tuple #[.slice (some ⟨gq,0,none⟩) m m,.slice (some ⟨gu,0,none⟩) (n+m) (n+m)])∧
  U32 w.heap.size w' (.slice (some ⟨gq,0,none⟩) m m) m (dig (a / b))∧U32 w.heap.size w' (.slice (some ⟨gu,0,none⟩) (n+m) (n+m)) (n+m) (dig (a % b))∧Gr w.heap.size w w'
structure LongW (w wx:World) (gu gv n m X V:Nat):Prop where
 gr:Gr w.heap.size w wx
 u:U32 w.heap.size wx (.slice (some ⟨gu,0,none⟩) (n+m) (n+m)) (n+m) (dig X)
 v:U32 w.heap.size wx (.slice (some ⟨gv,0,none⟩) n (n+1)) n (dig V)
 uv:gv≠gu
 bu:w.heap.size≤gu
 su:gu<wx.heap.size
 sv:gv<wx.heap.size
theorem or_join {x y:Nat} (hx:x<4294967296) (hy:y<4294967296):bits .or .u64 ((x:Int)*4294967296) (y:Int)=((x*4294967296+y:Nat):Int):=by
 have e:((x:Int)*4294967296)=((x*4294967296:Nat):Int):=by omega
 have ej:x*4294967296 ||| y=x*4294967296+y:=nat_join 32 _ _ (by omega) (by omega)
 rw [e,u64_or_nat _ _ (by omega) (by omega),ej]
abbrev backF (G u' v:Nat→Nat) (o t:Nat):Nat→Nat:=fun j=>if o≤j∧j<o+t then adU u' v (j - o)else G j
theorem backF_zero (G u' v:Nat→Nat) (o j:Nat):G j=backF G u' v o 0 j:=by
 rw [backF,if_neg (by omega)]
theorem backF_at (G u' v:Nat→Nat) (o t:Nat):backF G u' v o t (o+t)=G (o+t):=by
 rw [backF,if_neg (by omega)]
theorem backF_next (G u' v:Nat→Nat) (o t j:Nat):(if j=o+t then adU u' v t else backF G u' v o t j)=backF G u' v o (t+1) j:=by
 by_cases e:j=o+t
 ·subst e;simp only [backF,if_true,if_pos (show o≤o+t∧o+t<o+(t+1) by omega),Nat.add_sub_cancel_left]
 ·by_cases e2:o≤j∧j<o+t
  ·simp only [backF,if_neg e,if_pos e2,if_pos (show o≤j∧j<o+(t+1) by omega)]
  ·simp only [backF,if_neg e,if_neg e2,if_neg (show ¬(o≤j∧j<o+(t+1)) by omega)]
theorem lessF_in (F v:Nat→Nat) (n d o t:Nat) (h:t≤n):lessF F v n d o (n+1) (o+t)=knU (winF F o) v n d t:=by
 rw [lessF,if_pos (by omega),Nat.add_sub_cancel_left]
theorem back_end (F v:Nat→Nat) (n d o j:Nat):(if j=o+n then(knU (winF F o) v n d n+adC (knU (winF F o) v n d) v n) % 4294967296 else backF (lessF F v n d o (n+1)) (knU (winF F o) v n d) v o n j) =
  (if o≤j∧j<o+(n+1)then(if j - o<n then adU (knU (winF F o) v n d) v (j - o)else(knU (winF F o) v n d n+adC (knU (winF F o) v n d) v n) % 4294967296)else F j):=by
 by_cases e:j=o+n
 ·subst e;rw [if_pos rfl,if_pos (by omega),if_neg (by omega)]
 ·by_cases e2:o≤j∧j<o+n
  ·rw [if_neg e,backF,if_pos e2,if_pos (by omega),if_pos (by omega)]
  ·rw [if_neg e,backF,if_neg e2,lessF,if_neg (by omega),if_neg (by omega)]
theorem LongW.made {w w1 w2:World} {B1 B2:Nat} {la n m X V:Nat} (hm:la+1=n+m) (hgr:Gr w.heap.size w w2) (h1:U32 B1 w1 (.slice (some ⟨w.heap.size,0,none⟩) (la+1) (la+1)) (la+1) (dig X)) (hB1:B1=w.heap.size)
  (h2:U32 B2 w2 (.slice (some ⟨w1.heap.size,0,none⟩) (n+1) (n+1)) (n+1) (dig V)) (hB2:B2=w1.heap.size) (hg2:Gr w1.heap.size w1 w2) (hg1:Gr w.heap.size w w1):
  ∃gu gv,Value.slice (some ⟨w.heap.size,0,none⟩) (la+1) (la+1)=Value.slice (some ⟨gu,0,none⟩) (n+m) (n+m)∧Value.slice (some ⟨w1.heap.size,0,none⟩) n (n+1)=Value.slice (some ⟨gv,0,none⟩) n (n+1)∧LongW w w2 gu gv n m X V:=by
 subst hB1 hB2
 have s1:=(h1.at0 (k:=0) (by omega)).2.2
 have s2:=(h2.at0 (k:=0) (by omega)).2.2
 have hs2:=hg2.size
 refine⟨_,_,by rw [hm],rfl,hgr,?_,(h2.take (Nat.le_succ n)).mono hg1.size,by omega,Nat.le_refl _,by omega,s2⟩
 rw [←hm]
 exact h1.gr hg2 (Nat.le_refl _)
theorem LongL.made {w wx:World} {gu gv n m X V Q:Nat} (h:LongW w wx gu gv n m X V) (t:TypeId):
  LongL w (wx.alloc (.cells (madeCells #[.int .u32 0] m) t)) gu gv wx.heap.size n m V Q m (dig X):=
 ⟨h.gr.alloc h.gr.size _,h.u.gr ((Gr.refl _ _).alloc (Nat.le_refl _) _) (Nat.le_refl _),h.v.gr ((Gr.refl _ _).alloc (Nat.le_refl _) _) (Nat.le_refl _),
  ((U32.made m t).mono h.gr.size).congr fun j hj=>by rw [if_neg (by omega)],h.uv,by have:=h.su;omega,by have:=h.sv;omega,h.bu,h.gr.size⟩
set_option maxRecDepth 100000 in
set_option maxHeartbeats 2000000 in
theorem nats_long {B B' a b n m capx capy:Nat} {A A':Option Addr} {w:World} (ha:wl a≤549755813888) (hb:wl b=n) (hn2:2≤n) (hm:wl a+1=n+m) (hm1:1≤m)
  (hx:U32 B w (.slice A (wl a) capx) (wl a) (dig a)) (hy:U32 B' w (.slice A' n capy) n (dig b)):
  Calls Tryz.prog 164 #[.slice A (wl a) capx,.slice A' n capy] w (LongPost w a b n m):=by
 obtain ⟨i0,hi,hz0,hz1,hz2⟩:=info_parts info_u32
 have hmk:∀W:World,(Instr.makeSlice 210 (.int .i64 (m:Int)) (.int .i64 (m:Int))).run Tryz.prog W =
   .ok (.slice (some ⟨W.heap.size,0,none⟩) m m) (W.alloc (.cells (madeCells #[.int .u32 0] m) 78)):=by
  intro W
  rw [run_make_rowN 210 78 i0 _ Tryz.underlying210 hi hz0 .i64 .i64 m m (Nat.le_refl _) (by rw [hz2];omega) (by omega) W,hz1,Nat.mul_one]
  rfl
 have hd1:dig b (n - 1)≠0:=by
  have:=dig_top (n:=b) (by intro h;subst h;rw [wl_zero]at hb;omega)
  rwa [hb]at this
 obtain ⟨s,hs,hsf,hlz⟩:=bits_lz hd1 (dig_lt _ _)
 have hVl:b*2 ^ s<4294967296 ^ n:=by
  obtain ⟨p,rfl⟩:∃p,n=p+1:=⟨n - 1,by omega⟩
  exact shift_fits hb hsf
 have hX0:a*2 ^ s / 4294967296 ^ m<b*2 ^ s:=start_fits hm hb (by omega)
 have haN:a<4294967296 ^ wl a:=lt_pow_wl a
 have hbN:b<4294967296 ^ n:=hb ▸ lt_pow_wl b
 obtain ⟨gy,oy,rfl,hBy,hgy,hyc,hyf⟩:=hy.at_ (k:=n - 1) (by omega)
 have HX:=Lh hx
 have HY:=Lh hy
 have HLZ:=Lh hlz
 have HVL:=Lh hVl
 have HX0:=Lh hX0
 have HAN:=Lh haN
 have HBN:=Lh hbN
 have HMK:=Lh hmk
 have HA:=Lh ha
 have HB:=Lh hb
 have HM:=Lh hm
 have hab:wl b≤549755813888:=by omega
 have HAB:=Lh hab
 have hnl:n≤549755813888:=by omega
 clear hi hz0 hz1 hz2 hx hy hlz hVl hX0 haN hbN hsf hmk hd1 ha hb hm hab
 have hdl:=dig_lt b (n - 1)
 have hn1:((n:Int) - 1).toNat=n - 1:=by omega
 generalize hD:dig b (n - 1)=D at *
 generalize hLA:wl a=la at *
 go_enter Tryz.func164,Tryz.ntmps164
 clear hD hLA
 go_wp2_with fail
 refine(HLZ.out _).mono ?_
 rintro e w ⟨rfl,rfl⟩
 go_upto_region 3 with fail
 go_cut [7,8] (fun x y wx=> ∃gu gv,x= .slice (some ⟨gu,0,none⟩) (n+m) (n+m)∧y= .slice (some ⟨gv,0,none⟩) n (n+1)∧LongW w wx gu gv n m (a*2 ^ s) (b*2 ^ s))
 case first=>
  have hi1:(n:Int)≤(n:Int)+1:=by omega
  have hi2:(0:Int)≤(n:Int):=by omega
  go_region_held3 (fun w'=>Gr w.heap.size w w')
   (first|assumption|exact Gr.drew (Gr.refl _ _)|(simp [go_sem, *];done))
   (first
    | (go_at_call_of 192 (Value.slice A la capx);refine(nats_shifted (N:=a) HA.out (HX.out.gr ((Gr.refl _ _).drew) (Nat.le_refl _)) HAN.out hs).mono ?_;rintro e w1 ⟨rfl,hv1,hg1⟩;have hgr1:=hg1.of_drew;have HV1:=Lh hv1;clear hv1 hg1;have hyy:=(HY.out.gr hgr1 (Nat.le_refl _));have HYY:=Lh hyy;clear hyy)
    | (go_at_call_of 192 (Value.slice (some ⟨gy,oy,none⟩) n capy);refine(nats_shifted (N:=b) hnl HYY.out HBN.out hs).mono ?_;rintro e w2 ⟨rfl,hv2,hg2⟩;have hgr2:=hgr1.trans (hg2.mono hgr1.size);have HV2:=Lh hv2;have HG2:=Lh hg2;clear hv2 hg2))
  go_wp2_with fail
  go_meet
  exact LongW.made HM.out hgr2 HV1.out rfl HV2.out rfl HG2.out hgr1
 case rest=>
  obtain ⟨gu,gv,rfl,rfl,hcut⟩:=hcut
  have HC:=Lh hcut
  have hmk:∀W:World,(Instr.makeSlice 210 (.int .i64 ((n:Int)+(m:Int) - (n:Int))) (.int .i64 ((n:Int)+(m:Int) - (n:Int)))).run Tryz.prog W =
    .ok (.slice (some ⟨W.heap.size,0,none⟩) m m) (W.alloc (.cells (madeCells #[.int .u32 0] m) 78)):=by
   intro W
   rw [show((n:Int)+(m:Int) - (n:Int))=(m:Int) by omega]
   exact HMK.out W
  have hnm:n+m≤549755813889:=by have:=HM.out;have:=HA.out;omega
  have hVp:0<b*2 ^ s:=Nat.lt_of_le_of_lt (Nat.zero_le _) HX0.out
  have hwv:wl (b*2 ^ s)=n:=by
   have h1:=(wl_le_iff (b*2 ^ s) n).2 HVL.out
   have h2:=wl_mono (show b≤b*2 ^ s from Nat.le_mul_of_pos_right b (Nat.two_pow_pos s))
   have h3:=HB.out
   omega
  have hqe:a*2 ^ s / (b*2 ^ s)=a / b:=Nat.mul_div_mul_right a b (Nat.two_pow_pos s)
  have hre:a*2 ^ s % (b*2 ^ s)=a % b*2 ^ s:=Nat.mul_mod_mul_right (2 ^ s) a b
  have hxs:∀j,dig (a*2 ^ s) j=luU (a*2 ^ s) (b*2 ^ s) m j:=fun j=>(luU_start HX0.out j).symm
  have HQE:=Lh hqe
  have HRE:=Lh hre
  have HVP:=Lh hVp
  have HWV:=Lh hwv
  have HXS:=Lh hxs
  clear hcut hyc hyf hn1 hVp hwv HX0 HLZ HX HY HMK hgy hdl hBy hqe hre hxs HAN HBN HAB HB HA HM
  generalize a*2 ^ s=X at *
  generalize b*2 ^ s=V at *
  generalize hQ:a / b=Q at *
  go_wp2_with fail
  go_loopw [10] (fun t wr=> ∃k:Nat,k≤m∧t= .int .i64 ((k:Int) - 1)∧LongL w wr gu gv wc.heap.size n m V Q k (luU X V k)) (fun t _=>(intOf t+1).toNat)
  case atStart=>exact⟨m,Nat.le_refl _,rfl,(LongL.made HC.out _).congr HXS.out⟩
  case round=>
   obtain ⟨k,hk,rfl,hl⟩:=hrel
   clear HC HXS
   generalize wc.heap.size=gq at *
   by_cases h0:k=0
   ·subst h0
    have HL:=Lh hl
    clear hl
    rw [show((0:Nat):Int) - 1= -1 from rfl]
    go_wp2_with fail
    go_loopw [168] (fun t wi=> ∃j:Nat,j≤s∧t= .int .i64 j∧LongL w wi gu gv gq n m V Q 0 (dig (X % V / 2 ^ j))) (fun t _=>s - (intOf t).toNat)
    case atStart=>exact⟨0,Nat.zero_le _,rfl,HL.out.congr fun j=>by rw [Nat.pow_zero,Nat.div_one,luU_zero]⟩
    case round=>
     obtain ⟨j,hj,rfl,hl⟩:=hrel
     by_cases hlt:j<s
     ·have HL2:=Lh hl
      clear hl HL
      go_wp2_with fail
      refine(nats_half (N:=X % V / 2 ^ j) (by omega) HL2.out.u ?_).mono ?_
      ·have h1:X % V<V:=Nat.mod_lt _ HVP.out
       have h2:X % V / 2 ^ j≤X % V:=Nat.div_le_self _ _
       have h3:=HVL.out
       have h4:4294967296 ^ n≤4294967296 ^ (n+m):=Nat.pow_le_pow_right (by omega) (by omega)
       omega
      rintro e w1 ⟨rfl,hu,hw⟩
      rw [Nat.div_div_eq_div_mul,←Nat.pow_succ]at hu
      have HL3:=Lh (HL2.out.wr_ hw hu)
      clear hu hw
      go_wp2_with fail
      go_roundw
      case rel=>exact⟨j+1,by omega,by go_num,HL3.out⟩
      case measure=>simp [intOf];omega
     ·obtain rfl:j=s:=by omega
      have HL2:=Lh hl
      clear hl HL
      go_wp2_with fail
      go_ret2
      refine⟨gu,gq,by simp,?_,?_,HL2.out.gr⟩
      ·exact HL2.out.q.congr fun t _=>by rw [if_pos (Nat.zero_le _),hQ]
      ·refine HL2.out.u.congr fun t _=>?_
       rw [HRE.out,Nat.mul_div_cancel _ (Nat.two_pow_pos j)]
   ·obtain ⟨i,rfl⟩:∃i,k=i+1:=⟨k - 1,by omega⟩
    have ei:((i+1:Nat):Int) - 1=(i:Int):=by omega
    rw [ei]
    have hrd:=Round.make (X:=X) (V:=V) (i:=i) (p:=n - 2) HQE.out HVP.out (by rw [show n - 2+2=n by omega];exact HVL.out) (by rw [show n - 2+2=n by omega];exact HWV.out)
    rw [show n - 2+2=n by omega,show n - 2+1=n - 1 by omega]at hrd
    obtain ⟨hc1,hf1,_⟩:=hl.u.at0 (k:=i+n) (by omega)
    obtain ⟨hc2,hf2,_⟩:=hl.u.at0 (k:=i+(n - 1)) (by omega)
    obtain ⟨hc3,hf3,_⟩:=hl.u.at0 (k:=i+(n - 2)) (by omega)
    obtain ⟨hc4,hf4,_⟩:=hl.v.at0 (k:=n - 1) (by omega)
    obtain ⟨hc5,hf5,_⟩:=hl.v.at0 (k:=n - 2) (by omega)
    have HL:=Lh hl
    have HRD:=Lh hrd
    have hu1:=luU_lt X V (i+1) (i+n)
    have hu2:=luU_lt X V (i+1) (i+(n - 1))
    have hu3:=luU_lt X V (i+1) (i+(n - 2))
    have hv1l:=dig_lt V (n - 1)
    have hv2l:=dig_lt V (n - 2)
    have hv1p:=hrd.v1p
    clear hl hrd ei
    generalize hU1:luU X V (i+1) (i+n)=U1 at *
    generalize hU2:luU X V (i+1) (i+(n - 1))=U2 at *
    generalize hU3:luU X V (i+1) (i+(n - 2))=U3 at *
    generalize hV1:dig V (n - 1)=V1 at *
    generalize hV2:dig V (n - 2)=V2 at *
    have e2:((i:Int)+(n:Int) - 1).toNat=i+(n - 1):=by omega
    have e4:((n:Int) - 1).toNat=n - 1:=by omega
    clear hU1 hU2
    go_wp2_with fail
    go_step3
    go_wp2_with fail
    go_quiet (fail)
    rw [or_join hu1 hu2]
    have hv0:(((V1:Nat):Int) != 0)=true:=by simp;omega
    have htl:U1*4294967296+U2≤18446744073709551615:=by omega
    generalize U1*4294967296+U2=T at *
    have hdv:IntKind.u64.wrap ((T:Int) / (V1:Int))=((T / V1:Nat):Int):=by
     have h1:T / V1≤T:=Nat.div_le_self _ _
     rw [←Int.natCast_ediv,IntKind.wrap_u64]
     generalize T / V1=t at *
     omega
    have hmd:(T:Int) % (V1:Int)=((T % V1:Nat):Int):=(Int.natCast_emod T V1).symm
    clear hc1 hc2
    go_wp2_with fail
    go_quiet (fail)
    rw [show(T:Int) / (V1:Int)=((T / V1:Nat):Int)from(Int.natCast_ediv T V1).symm,hmd]
    clear hdv hmd hu1 hu2 e2
    go_wp2_with fail
    go_step3
    go_upto_block 2 with fail
    go_cut [12] (fun d wx=> ∃D:Nat,d= .int .u64 D∧D<4294967296∧dig Q i≤D∧D≤dig Q i+1∧LongL w wx gu gv gq n m V Q (i+1) (luU X V (i+1)))
    case first=>
     go_wp2_with fail
     go_loopw [12,13] (fun d r wi=> ∃D R:Nat,d= .int .u64 D∧r= .int .u64 R∧Guess T U3 V1 V2 (dig Q i) D R∧LongL w wi gu gv gq n m V Q (i+1) (luU X V (i+1))) (fun _ r _=>4294967296 - (intOf r).toNat)
     case atStart=>exact⟨T / V1,T % V1,rfl,rfl,guess_start HRD.out.q1 hv1p,(HL.out.drewN _).drewN _⟩
     case round=>
      obtain ⟨D,R,rfl,rfl,hg,hl⟩:=hrel
      have hsum:=hg.sum
      have hRT:R≤T:=by omega
      have hDT:D≤T:=by have:=Nat.le_mul_of_pos_right D hv1p;omega
      have hge:=hg.ge
      have HG:=Lh hg
      have HL:=Lh hl
      obtain ⟨hb3,_,_⟩:=hl.u.at0 (k:=i+(n - 2)) (by omega)
      obtain ⟨hb4,_,_⟩:=hl.v.at0 (k:=n - 1) (by omega)
      obtain ⟨hb5,_,_⟩:=hl.v.at0 (k:=n - 2) (by omega)
      rw [hU3]at hb3
      rw [hV1]at hb4
      rw [hV2]at hb5
      clear hsum hg hl hc3 hc4 hc5
      by_cases hr:R≤4294967295
      ·have hor:=or_join (x:=R) (y:=U3) (by omega) hu3
       have e3:((i:Int)+(n:Int) - 2).toNat=i+(n - 2):=by omega
       have e5:((n:Int) - 2).toNat=n - 2:=by omega
       have e4:((n:Int) - 1).toNat=n - 1:=by omega
       by_cases hd:D≤4294967295
       ·have hdb:decide ((D:Int)≤4294967295)=true:=by simp;omega
        have hmul:=mul_word_le (a:=D) (b:=V2) (by omega) hv2l
        have hmz:(0:Int)≤((D:Nat):Int)*((V2:Nat):Int):=by rw [←Int.natCast_mul];omega
        have hmi:((D:Nat):Int)*((V2:Nat):Int)≤18446744065119617025:=by rw [←Int.natCast_mul];omega
        by_cases hfit:D*V2≤R*4294967296+U3
        ·have hcm:decide ((D:Int)*(V2:Int)≤(R:Int)*4294967296+(U3:Int))=true:=by
          rw [decide_eq_true_iff,←Int.natCast_mul];omega
         have hfin:=HRD.out.fin D R HG.out (.inr ⟨by omega,hfit⟩)
         clear hmul hfit
         go_wp2_with fail
         go_quiet (fail)
         go_wp2_with fail
         go_meet
         exact⟨D,rfl,hfin.1,hge,hfin.2,HL.out.drewN _⟩
        ·have hcm:decide ((D:Int)*(V2:Int)≤(R:Int)*4294967296+(U3:Int))=false:=by
          rw [decide_eq_false_iff_not,←Int.natCast_mul];omega
         have hDp:=guess_pos HG.out (.inr (by omega))
         have hst:=guess_step HG.out HRD.out.qt HRD.out.q2 (.inr (by omega)) hDp
         clear hmul hfit
         go_wp2_with fail
         go_quiet (fail)
         go_wp2_with fail
         refine⟨⟨D - 1,R+V1,?_,rfl,hst,HL.out.drewN _⟩,?_⟩
         ·congr 1;omega
         ·simp [intOf];omega
       ·have hdb:decide ((D:Int)≤4294967295)=false:=by simp;omega
        have hst:=guess_step HG.out HRD.out.qt HRD.out.q2 (.inl (by omega)) (by omega)
        clear hor e3 e5
        go_wp2_with fail
        go_quiet (fail)
        go_wp2_with fail
        refine⟨⟨D - 1,R+V1,?_,rfl,hst,HL.out.drewN _⟩,?_⟩
        ·congr 1;omega
        ·simp [intOf];omega
      ·have hfin:=HRD.out.fin D R HG.out (.inl (by omega))
       go_wp2_with fail
       go_meet
       exact⟨D,rfl,hfin.1,hge,hfin.2,HL.out⟩
    case rest=>
     obtain ⟨D,rfl,hd,hge,hle,hl⟩:=hcut
     obtain ⟨hno,hyes⟩:=round_end HQE.out HVP.out HVL.out hd hge hle
     have HNO:=Lh hno
     have HYES:=Lh hyes
     have HL:=Lh hl
     clear hc3 hc4 hc5 hno hyes hl HRD
     have e6:((i:Int)+(n:Int)+1 - (i:Int)).toNat=n+1:=by omega
     go_wp2_with fail
     rw [show i+n+1 - i=n+1 by omega]
     refine(nats_less (N:=n+m) (cap:=n+m) hnl (by omega) (by omega) HL.out.u HL.out.v (fun _=>by have:=HL.out.uv;simpa [Value.ownBlock] using this) (luU_lt _ _ _) (dig_lt _) hd).mono ?_
     rintro e w1 ⟨rfl,hu,hw⟩
     have hl1:=HL.out.wr_ hw hu
     have HL1:=Lh hl1
     clear hl1 hu hw HL e6
     have hkl:knL (winF (luU X V (i+1)) i) (dig V) n D≤1:=sbL_le _ _ _
     go_upto_if 125 with fail
     go_cut [12] (fun d wx=>d= .int .u64 (dig Q i)∧LongL w wx gu gv gq n m V Q (i+1) (luU X V i))
     case first=>
      by_cases hk1:knL (winF (luU X V (i+1)) i) (dig V) n D=1
      ·obtain ⟨hdq,hd0,hwd⟩:=HYES.out hk1
       rw [decide_eq_true hk1]
       have hG:=fun t ht=>lessF_in (luU X V (i+1)) (dig V) n D i t ht
       have hend:∀j,_=luU X V i j:=fun j=>(back_end (luU X V (i+1)) (dig V) n D i j).trans (hwd j)
       have hUl:∀t,knU (winF (luU X V (i+1)) i) (dig V) n D t<4294967296:=fun t=>sbU_lt _ _ _
       clear hwd hk1 hkl HNO HYES
       generalize lessF (luU X V (i+1)) (dig V) n D i (n+1)=G at *
       generalize knU (winF (luU X V (i+1)) i) (dig V) n D=U' at *
       have HEND:=Lh hend
       have HG:=Lh hG
       have HUL:=Lh hUl
       clear hend hG hUl
       have hdi:((D:Int) - 1)=((dig Q i:Nat):Int):=by omega
       go_wp2_with fail
       clear hdi hdq hge hle
       go_loopw [14,130] (fun c t wi=> ∃k:Nat,k≤n∧t= .int .i64 k∧c= .int .u32 (adC U' (dig V) k)∧LongL w wi gu gv gq n m V Q (i+1) (backF G U' (dig V) i k)) (fun _ t _=>n - (intOf t).toNat)
       case atStart=>exact⟨0,Nat.zero_le _,rfl,rfl,HL1.out.congr fun j=>backF_zero _ _ _ _ _⟩
       case round=>
        obtain ⟨k,hk,rfl,rfl,hl⟩:=hrel
        obtain ⟨hoc,hof,_⟩:=hl.u.at0 (k:=i+k) (by omega)
        rw [backF_at,HG.out k hk]at hoc
        have huk:=HUL.out k
        have hck:=adC_le (u:=U') (v:=dig V) (n:=k) (fun t _=>HUL.out t) (fun t _=>dig_lt V t)
        by_cases hlt:k<n
        ·obtain ⟨hvc,_,_⟩:=hl.v.at0 (k:=k) hlt
         have hvk:=dig_lt V k
         have hst:=hl.setU (i:=i+k) (x:=adU U' (dig V) k) (by omega) (backF_next G U' (dig V) i k)
         have HST:=Lh hst
         have HAU:=Lh (show adU U' (dig V) k=(U' k+dig V k+adC U' (dig V) k) % 4294967296 from rfl)
         have HAC:=Lh (show adC U' (dig V) (k+1)=(U' k+dig V k+adC U' (dig V) k) / 4294967296 from rfl)
         clear hl hst
         generalize adU U' (dig V) k=x at *
         generalize hc':adC U' (dig V) (k+1)=c' at *
         have HC':=Lh hc'
         clear hc'
         generalize adC U' (dig V) k=c at *
         generalize U' k=uk at *
         generalize dig V k=vk at *
         go_wp2_with fail
         refine(bits_Add32 (x:=uk) (y:=vk) (c:=c) huk hvk hck _).mono ?_
         rintro e w' ⟨rfl,rfl⟩
         rw [←HAU.out,←HAC.out]
         go_wp2_with fail
         go_roundw
         case rel=>exact⟨k+1,by omega,by go_num,by rw [HC'.out],HST.out⟩
         case measure=>simp [intOf];omega
        ·obtain rfl:k=n:=by omega
         have hst:=hl.setU (i:=i+k) (x:=(U' k+adC U' (dig V) k) % 4294967296) (by omega) HEND.out
         have HST:=Lh hst
         clear hl hst
         generalize adC U' (dig V) k=c at *
         generalize U' k=uk at *
         go_wp2_with fail
         go_meet
         exact⟨rfl,HST.out⟩
      ·obtain ⟨hdq,hwd⟩:=HNO.out (by omega)
       have hdb:decide (knL (winF (luU X V (i+1)) i) (dig V) n D=1)=false:=by simp;omega
       rw [hdb,hdq]
       have HL2:=Lh (HL1.out.congr hwd)
       clear hwd
       go_wp2_with fail
       go_meet
       exact⟨rfl,HL2.out⟩
     case rest=>
      obtain ⟨rfl,hl2⟩:=hcut
      have hst:=hl2.setQ (by omega)
      obtain ⟨hqc,hqf,_⟩:=hl2.q.at0 (k:=i) (by omega)
      have hdl:=dig_lt Q i
      have HST:=Lh hst
      clear hl2 hst
      go_wp2_with fail
      rw [Exit.noGoto_normal]
      go_wp2_with fail
      go_roundw
      case rel=>exact⟨i,by omega,rfl,HST.out⟩
      case measure=>simp [intOf]
end Go.Proofs.YtfgmdhjmgdccdaaGreat
