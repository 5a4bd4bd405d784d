/-
  Part 45 of the proof: RawF.
-/
import Derived.Test.YtfgmdhjmgdccdaaGreatJ39
import Derived.Test.YtfgmdhjmgdccdaaGreatJ29
import Derived.Test.YtfgmdhjmgdccdaaGreatJ27
set_option linter.unusedSimpArgs false
set_option linter.unusedVariables false
set_option maxHeartbeats 8000000
namespace Go.Proofs.YtfgmdhjmgdccdaaGreat
open Go.RowKit Gus Go.Maps
structure TQ where
 i:Int
 j:Int
 n:Int
 d:Nat
structure TQ.ok (t:TQ):Prop where
 i:i64ok t.i
 j:i64ok t.j
 n:i64ok t.n
 d:t.d<4294967296
abbrev tqC (t:TQ):List Value:= [.int .i64 t.i,.int .i64 t.j,.int .i64 t.n,.int .u32 (t.d:Int)]
theorem SL.rs {α:Type} {enc:α→List Value} {k:Nat} {w:World} {v:Value} {l:List α} {t:TypeId} {B:Nat} (h:SL enc k t w B v l):RS enc k w v l:=by
 rcases h with⟨h,rfl⟩|⟨g,cap,h1,h2,h3,h4,h5,h6⟩
 ·exact .inl ⟨_,_,h,rfl⟩
 ·exact .inr ⟨g,0,cap,h1,h5.lt,fun j hj i u hu=>by rw [Nat.zero_add];exact h6 j hj i u hu⟩
def brI (i:Int):Nat:=(IntKind.u64.wrap i).toNat % 5
def brJ (i j:Int):Nat:=(IntKind.u64.wrap j).toNat % (4 - brI i+1)
theorem brI_le (i:Int):brI i≤4:=by have:=Nat.mod_lt (IntKind.u64.wrap i).toNat (show 0<5 by decide);unfold brI;omega
theorem brJ_le (i j:Int):brI i+brJ i j≤4:=by
 have h:=brI_le i
 have:=Nat.mod_lt (IntKind.u64.wrap j).toNat (show 0<4 - brI i+1 by omega)
 unfold brJ;omega
def br (t:TQ):TQ:=⟨(brI t.i:Int),(brJ t.i t.j:Int),t.n,t.d⟩
def brT (t:TQ):T:=⟨brI t.i,brJ t.i t.j,qQ t.n t.d⟩
def madeL (l:List TQ):List T:=gat (l.map brT)
theorem ok_br (l:List TQ):∀t∈l.map brT,t.ok:=by
 intro t ht
 obtain ⟨x,_,rfl⟩:=List.mem_map.1 ht
 have:=brJ_le x.i x.j
 show brI x.i+brJ x.i x.j≤12
 omega
theorem tot_br:∀l:List TQ,(∀t∈l,t.ok)→tot (l.map brT)≤l.length*5
 | [],_=>by simp [tot]
 | t :: r,h=>by
  have h1:=tot_br r (fun x hx=>h x (by simp [hx]))
  have h2:=h t (by simp)
  have h3:=hw_qQ t.n t.d h2.n h2.d
  simp only [List.map_cons,tot,List.length_cons,brT]
  omega
theorem tot_madeL {l:List TQ} (h:∀t∈l,t.ok) (hl:l.length≤20):tot (madeL l)≤100:=by
 have h1:=tot_gat (l.map brT)
 have h2:=tot_br l h
 unfold madeL
 omega
theorem tqC_len (t:TQ):(tqC t).length=4:=rfl
theorem tqC_one (x:TQ):∀v∈tqC x,v.oneCell'=true:=by
 intro v hv
 simp only [tqC,List.mem_cons,List.not_mem_nil,or_false]at hv
 rcases hv with rfl|rfl|rfl|rfl<;>rfl
theorem info_TQ:(Tryz.prog.info? 180).map (fun i=>(i.zero,i.size,i.bytes))=some (some (.agg #[.int .i64 0,.int .i64 0,.int .i64 0,.int .u32 0]),4,32):=by kernel_rfl
theorem row_TQ {w:World} {g o:Nat} {l:List TQ} (h:∀j (hj:j<l.length) (i:Nat) u,(tqC l[j])[i]? =some u→w.cell? ⟨g,o+j*4+i,none⟩=some u) {j:Nat} (hj:j<l.length) {t:TQ} (ht:l[j]=t):
  w.cell? ⟨g,o+j*4,none⟩=some (.int .i64 t.i)∧w.cell? ⟨g,o+j*4+1,none⟩=some (.int .i64 t.j)∧w.cell? ⟨g,o+j*4+2,none⟩=some (.int .i64 t.n)∧w.cell? ⟨g,o+j*4+3,none⟩=some (.int .u32 (t.d:Int)):=by
 subst ht
 exact⟨h j hj 0 _ rfl,h j hj 1 _ rfl,h j hj 2 _ rfl,h j hj 3 _ rfl⟩
theorem wrapU_id {n:Int} (h1:0≤n) (h2:n<18446744073709551616):IntKind.u64.wrap n=n:=by
 have h3:(2:Int) ^ IntKind.bits .u64=18446744073709551616:=by decide
 have h5:IntKind.signed .u64=false:=rfl
 simp only [IntKind.wrap,h3,h5,Bool.false_and,Bool.false_eq_true,if_false]
 omega
theorem wrapU_nonneg (n:Int):0≤IntKind.u64.wrap n∧IntKind.u64.wrap n<18446744073709551616:=by
 have h3:(2:Int) ^ IntKind.bits .u64=18446744073709551616:=by decide
 have h5:IntKind.signed .u64=false:=rfl
 simp only [IntKind.wrap,h3,h5,Bool.false_and,Bool.false_eq_true,if_false]
 omega
theorem br_a (i:Int):wrap64 ((IntKind.u64.wrap i).tmod 5)=(brI i:Int):=by
 have h:=wrapU_nonneg i
 have e:(IntKind.u64.wrap i).tmod 5=(brI i:Int):=by
  rw [Int.tmod_eq_emod_of_nonneg h.1];unfold brI;rw [Int.natCast_emod,Int.toNat_of_nonneg h.1];rfl
 rw [e]
 have:=brI_le i
 unfold wrap64;omega
theorem br_b (i j:Int):IntKind.i64.wrap ((IntKind.u64.wrap j).tmod (4 - (brI i:Int)+1))=(brJ i j:Int):=by
 have h:=wrapU_nonneg j
 have h8:=brI_le i
 have e:(IntKind.u64.wrap j).tmod (4 - (brI i:Int)+1)=(brJ i j:Int):=by
  rw [Int.tmod_eq_emod_of_nonneg h.1]
  unfold brJ
  rw [Int.natCast_emod,Int.toNat_of_nonneg h.1]
  congr 1
  omega
 rw [e]
 have:=brJ_le i j
 exact wrap64_id (n:=(brJ i j:Int)) (by omega) (by omega)
set_option maxRecDepth 20000 in
theorem Brought_walk (l:List TQ) (hlen:l.length≤20) (p:Option Addr) (cap:Nat) (w:World) (hS:RS tqC 4 w (.slice p l.length cap) l):
  Calls Tryz.prog 55 #[.slice p l.length cap,.int .i64 4] w (fun e w'=> ∃v,e= .returned v∧SL tqC 4 180 w' w.heap.size v (l.map br)∧Gr w.heap.size w w'):=by
 obtain ⟨i0,hi,hz0,hz1,hz2⟩:=info_parts info_TQ
 have HI:=Lh (And.intro hi (And.intro hz0 (And.intro hz1 hz2)))
 have HS:=Lh hS
 clear hS hi hz0 hz1 hz2
 go_enter Tryz.func55,Tryz.ntmps55
 go_wp2
 go_loopw [5,6] (fun v s wr=> ∃n:Nat,s= .int .i64 n∧n≤l.length∧Hid (SL tqC 4 180 wr w.heap.size v ((l.take n).map br))∧Hid (Gr w.heap.size w wr)) (fun _ s _=>l.length - (intOf s).toNat)
 case atStart=>exact⟨0,rfl,Nat.zero_le _,Lh SL.nil,Lh (Gr.refl _ _)⟩
 case round=>
  obtain ⟨n,rfl,hn,HP,HG⟩:=hrel
  have hszr:=HG.out.size
  by_cases hlt:n<l.length
  ·obtain ⟨t,ht⟩:∃t,l[n]=t:=⟨_,rfl⟩
   obtain ⟨g,o,c2,e1,hg,hR⟩:=(HS.out.gr HG.out).block (by intro e;rw [e]at hlt;simp at hlt)
   injection e1 with e1 _ e2
   subst e1 e2
   obtain ⟨v0,v1,v2,v3⟩:=row_TQ hR hlt ht
   have HT:=Lh ht
   have hbi:=brI_le t.i
   have hbj:=brJ_le t.i t.j
   have hA7:=br_a t.i
   have hw1:IntKind.i64.wrap (4 - (brI t.i:Int))=4 - (brI t.i:Int):=wrap64_id (by omega) (by omega)
   have hw2:IntKind.i64.wrap (4 - (brI t.i:Int)+1)=4 - (brI t.i:Int)+1:=wrap64_id (by omega) (by omega)
   have hw3:IntKind.u64.wrap (4 - (brI t.i:Int)+1)=4 - (brI t.i:Int)+1:=wrapU_id (by omega) (by omega)
   have hw4:¬(4 - (brI t.i:Int)+1=0):=by omega
   have hw5:=br_b t.i t.j
   have hgw:g<wr.heap.size:=hg
   have hgB:g<w.heap.size:=by
    obtain ⟨g',o',c',e2,h2,_⟩:=HS.out.block (by intro e;rw [e]at hlt;simp at hlt)
    injection e2 with e2
    injection e2 with e2
    injection e2 with e2
    omega
   obtain ⟨acc,hacc⟩:∃acc,(l.take n).map br=acc:=⟨_,rfl⟩
   have hpl:acc.length≤20:=by rw [←hacc];simp;omega
   rw [hacc]at HP
   have HACC:=Lh hacc
   obtain ⟨pa,pc,rfl⟩:=HP.out.at
   clear hR ht hacc
   go_upto_region 6 with fail
   rw [hA7]
   refine wp_region_held_drew (S:=(fun w'=>w'.cell? ⟨g,o+n*4+1,none⟩=some (.int .i64 t.j)∧w'.cell? ⟨g,o+n*4+2,none⟩=some (.int .i64 t.n)∧w'.cell? ⟨g,o+n*4+3,none⟩=some (.int .u32 (t.d:Int)))) (by kernel_rfl) ?_ (fun hHeld=>?_)
   ·simp [go_sem, *]
   refine tq 0 25 (.slice pa acc.length pc) ?_
   refine tq 1 26 (.int .i64 (brI t.i:Int)) ?_
   refine tq 2 27 (.slice (some ⟨g,o,none⟩) l.length cap) ?_
   refine tq 3 28 (.int .i64 (n:Int)) ?_
   refine tq 4 29 (.pointer (some ⟨g,o+n*4,none⟩)) ?_
   refine tq 5 30 (.pointer (some ⟨g,o+n*4+1,none⟩)) ?_
   refine tq 6 31 (.int .i64 t.j) ?_
   refine tq 7 32 (.int .u64 (IntKind.u64.wrap t.j)) ?_
   refine tq 8 33 (.int .i64 4) ?_
   refine tq 9 34 (.int .i64 (brI t.i:Int)) ?_
   refine tq 10 35 (.int .i64 (4 - (brI t.i:Int))) ?_
   refine tq 11 36 (.int .i64 (4 - (brI t.i:Int)+1)) ?_
   refine tq 12 37 (.int .u64 (4 - (brI t.i:Int)+1)) ?_
   refine tq 13 38 (.int .u64 ((IntKind.u64.wrap t.j).tmod (4 - (brI t.i:Int)+1))) ?_
   refine tq 14 39 (.int .i64 (brJ t.i t.j:Int)) ?_
   refine tq 15 40 (.slice (some ⟨g,o,none⟩) l.length cap) ?_
   refine tq 16 41 (.int .i64 (n:Int)) ?_
   refine tq 17 42 (.pointer (some ⟨g,o+n*4,none⟩)) ?_
   refine tq 18 43 (.pointer (some ⟨g,o+n*4+2,none⟩)) ?_
   refine tq 19 44 (.agg #[.int .i64 t.n,.int .u32 (t.d:Int)]) ?_
   refine tq 20 45 (.agg #[.int .i64 (brI t.i:Int),.int .i64 (brJ t.i t.j:Int),.int .i64 t.n,.int .u32 (t.d:Int)]) ?_
   refine rd 21 (fun K hK=>?_)
   go_simp
   refine kO hK fun hH2=>?_
   clear hK K hHeld
   refine rd 22 (fun K hK=>?_)
   rw [if_pos (by rfl)]
   refine wp_appS _ _ _ 76 rfl w.heap.size i0 _ 32 Tryz.underlying76 HI.out.1 HI.out.2.1 HI.out.2.2.1 HI.out.2.2.2 rfl (by decide) tqC_len tqC_one (.slice pa acc.length pc) acc rfl (HP.out.gr (by exact gzz)) wr.heap.size 1 [br t] 1 rfl rfl (RC.drew (RC.new1 rfl)) (by unfold maxLen;simp;omega) (by simp;omega) (by simp;omega) ?_
   intro v' w4 hS4 hkp4 _
   have hfar:∀q,w4.cell? ⟨g,q,none⟩=wr.cell? ⟨g,q,none⟩:=fun q=>(hkp4.cell (by simp;omega) (fun e=>by have:=HP.out.own_ge e.symm;omega)).trans ((show Gr wr.heap.size wr _ from by exact gzz).cell (p:=⟨g,q,none⟩) hgw)
   have hgr4:Gr w.heap.size wr w4:=(show Gr w.heap.size wr _ from by exact gzz).trans (hkp4.gr (fun b e=>HP.out.own_ge e) (by simp;omega))
   have HS4:=Lh (And.intro hS4 hgr4)
   clear hS4 hkp4 hgr4
   refine hK.out _ _ ?_ (fun hH3=>?_)
   ·simp only [hfar];exact⟨v1,v2,v3⟩
   clear hK K hH2 hfar
   try simp only [pS]
   refine tq 23 5 (v') ?_
   refine wpAnyH_done (by kernel_rfl) ?_ _
   go_wp2
   go_roundw
   case rel=>
    refine⟨n+1,by go_num,by omega,Lh ?_,Lh (HG.out.trans HS4.out.2)⟩
    rw [List.take_succ_eq_append_getElem hlt,List.map_append,HT.out,HACC.out]
    exact HS4.out.1
   case measure=>simp [intOf];omega
  ·obtain rfl:n=l.length:=by omega
   go_wp2
   go_ret
   exact⟨_,rfl,by have h:=HP.out;rw [List.take_length]at h;exact h,HG.out⟩
theorem Brought_made (l:List TQ) (hlen:l.length≤20) (p:Option Addr) (cap:Nat) (w:World) (hS:RS tqC 4 w (.slice p l.length cap) l):
  Calls Tryz.prog 55 #[.slice p l.length cap,.int .i64 4] w (fun e w'=> ∃v,e= .returned v∧RS tqC 4 w' v (l.map br)∧Gr w.heap.size w w'):=
 (Brought_walk l hlen p cap w hS).mono fun _ _ ⟨v,h1,h2,h3⟩=>⟨v,h1,h2.rs,h3⟩
def rawT (t:TQ):T:=⟨t.i.toNat,t.j.toNat,qQ t.n t.d⟩
theorem rawT_br (t:TQ):rawT (br t)=brT t:=by simp [rawT,br,brT]
set_option maxRecDepth 20000 in
theorem Raw_walk (l:List TQ) (hlen:l.length≤20) (hok:∀t∈l,0≤t.i∧0≤t.j∧i64ok t.n∧t.d<4294967296) (p:Option Addr) (cap:Nat) (w:World) (hS:RS tqC 4 w (.slice p l.length cap) l):
  Calls Tryz.prog 54 #[.slice p l.length cap] w (RetP w (l.map rawT)):=by
 obtain ⟨i0,hi,hz0,hz1,hz2⟩:=info_parts info_T
 have HI:=Lh (And.intro hi (And.intro hz0 (And.intro hz1 hz2)))
 have HS:=Lh hS
 have HOK:=Lh hok
 clear hS hi hz0 hz1 hz2 hok
 go_enter Tryz.func54,Tryz.ntmps54
 go_wp2
 go_loopw [3,4] (fun v s wr=> ∃n:Nat,s= .int .i64 n∧n≤l.length∧Hid (PL wr w.heap.size v ((l.take n).map rawT))∧Hid (Gr w.heap.size w wr)) (fun _ s _=>l.length - (intOf s).toNat)
 case atStart=>exact⟨0,rfl,Nat.zero_le _,Lh SL.nil,Lh (Gr.refl _ _)⟩
 case round=>
  obtain ⟨n,rfl,hn,HP,HG⟩:=hrel
  have hszr:=HG.out.size
  by_cases hlt:n<l.length
  ·obtain ⟨t,ht⟩:∃t,l[n]=t:=⟨_,rfl⟩
   obtain ⟨g,o,c2,e1,hg,hR⟩:=(HS.out.gr HG.out).block (by intro e;rw [e]at hlt;simp at hlt)
   injection e1 with e1 _ e2
   subst e1 e2
   obtain ⟨v0,v1,v2,v3⟩:=row_TQ hR hlt ht
   obtain ⟨k0,k1,k2,k3⟩:=HOK.out t (ht ▸ List.getElem_mem hlt)
   have HQ:=Lh (fun w=>q_Of t.n t.d w k2.1 k2.2 k3)
   obtain ⟨ti,hti⟩:∃k:Nat,t.i=(k:Int):=⟨t.i.toNat,by omega⟩
   obtain ⟨tj,htj⟩:∃k:Nat,t.j=(k:Int):=⟨t.j.toNat,by omega⟩
   obtain ⟨c,hc⟩:∃c,qQ t.n t.d=c:=⟨_,rfl⟩
   rw [hti]at v0
   rw [htj]at v1
   rw [hc]at HQ
   have HT:=Lh (show rawT l[n]=⟨ti,tj,c⟩ by rw [ht];unfold rawT;rw [hti,htj,hc];rfl)
   have hgw:g<wr.heap.size:=hg
   have hgB:g<w.heap.size:=by
    obtain ⟨g',o',c',e2,h2,_⟩:=HS.out.block (by intro e;rw [e]at hlt;simp at hlt)
    injection e2 with e2
    injection e2 with e2
    injection e2 with e2
    omega
   obtain ⟨acc,hacc⟩:∃acc,(l.take n).map rawT=acc:=⟨_,rfl⟩
   have hpl:acc.length≤20:=by rw [←hacc];simp;omega
   rw [hacc]at HP
   have HACC:=Lh hacc
   obtain ⟨pa,pc,rfl⟩:=HP.out.at
   clear hR ht hacc hti htj hc k0 k1 k2 k3
   go_upto_region 5 with fail
   refine wp_region_held_drew (S:=(fun w'=>w'.cell? ⟨g,o+n*4,none⟩=some (.int .i64 (ti:Int))∧w'.cell? ⟨g,o+n*4+1,none⟩=some (.int .i64 (tj:Int))∧w'.cell? ⟨g,o+n*4+2,none⟩=some (.int .i64 t.n)∧w'.cell? ⟨g,o+n*4+3,none⟩=some (.int .u32 (t.d:Int)))) (by kernel_rfl) ?_ (fun hHeld=>?_)
   ·simp [go_sem, *]
   refine tq 0 11 (.slice pa acc.length pc) ?_
   refine tq 1 12 (.slice (some ⟨g,o,none⟩) l.length cap) ?_
   refine tq 2 13 (.int .i64 (n:Int)) ?_
   refine tq 3 14 (.pointer (some ⟨g,o+n*4,none⟩)) ?_
   refine tq 4 15 (.pointer (some ⟨g,o+n*4,none⟩)) ?_
   refine tq 5 16 (.int .i64 (ti:Int)) ?_
   refine tq 6 17 (.slice (some ⟨g,o,none⟩) l.length cap) ?_
   refine tq 7 18 (.int .i64 (n:Int)) ?_
   refine tq 8 19 (.pointer (some ⟨g,o+n*4,none⟩)) ?_
   refine tq 9 20 (.pointer (some ⟨g,o+n*4+1,none⟩)) ?_
   refine tq 10 21 (.int .i64 (tj:Int)) ?_
   refine tq 11 22 (.slice (some ⟨g,o,none⟩) l.length cap) ?_
   refine tq 12 23 (.int .i64 (n:Int)) ?_
   refine tq 13 24 (.pointer (some ⟨g,o+n*4,none⟩)) ?_
   refine tq 14 25 (.pointer (some ⟨g,o+n*4+2,none⟩)) ?_
   refine tq 15 26 (.agg #[.int .i64 t.n,.int .u32 (t.d:Int)]) ?_
   refine rd 16 (fun K hK=>?_)
   go_simp
   (refine rtu (HQ.out _) fun w2 hsz2 hl2 hc2 hf2 HG2=>?_;(try simp at hsz2))
   refine kO hK fun hH2=>?_
   clear hK K hHeld
   refine tq 17 28 (.agg #[.int .i64 (ti:Int),.int .i64 (tj:Int),vA c,vB c,vC c,vD c,vE c]) ?_
   refine rd 18 (fun K hK=>?_)
   go_simp
   refine kO hK fun hH3=>?_
   clear hK K hH2
   refine rd 19 (fun K hK=>?_)
   rw [if_pos (by rfl)]
   refine wp_appS _ _ _ 46 rfl w.heap.size i0 _ 72 Tryz.underlying46 HI.out.1 HI.out.2.1 HI.out.2.2.1 HI.out.2.2.2 rfl (by decide) tC_len tC_one (.slice pa acc.length pc) acc rfl (HP.out.gr (by exact gcc HG2 gzz)) w2.heap.size 1 [⟨ti,tj,c⟩] 1 rfl rfl (RC.drew (RC.new1 rfl)) (by unfold maxLen;simp;omega) (by simp;omega) (by simp;omega) ?_
   intro v' w4 hS4 hkp4 _
   have hfar:∀q,w4.cell? ⟨g,q,none⟩=wr.cell? ⟨g,q,none⟩:=fun q=>(hkp4.cell (by simp;omega) (fun e=>by have:=HP.out.own_ge e.symm;omega)).trans ((show Gr wr.heap.size wr _ from by exact gcc HG2 gzz).cell (p:=⟨g,q,none⟩) hgw)
   have hgr4:Gr w.heap.size wr w4:=(show Gr w.heap.size wr _ from by exact gcc HG2 gzz).trans (hkp4.gr (fun b e=>HP.out.own_ge e) (by simp;omega))
   have HS4:=Lh (And.intro hS4 hgr4)
   clear hS4 hkp4 hgr4
   refine hK.out _ _ ?_ (fun hH4=>?_)
   ·simp only [hfar];exact⟨v0,v1,v2,v3⟩
   clear hK K hH3 hfar
   try simp only [pS]
   refine tq 20 3 (v') ?_
   refine wpAnyH_done (by kernel_rfl) ?_ _
   go_wp2
   go_roundw
   case rel=>
    refine⟨n+1,by go_num,by omega,Lh ?_,Lh (HG.out.trans HS4.out.2)⟩
    rw [List.take_succ_eq_append_getElem hlt,List.map_append,HACC.out]
    show PL _ _ _ (acc++ [rawT l[n]])
    rw [HT.out]
    exact HS4.out.1
   case measure=>simp [intOf];omega
  ·obtain rfl:n=l.length:=by omega
   go_wp2
   go_ret
   exact⟨_,rfl,by have h:=HP.out;rw [List.take_length]at h;exact h,HG.out⟩
set_option maxRecDepth 20000 in
theorem Made_raw {l lb:List TQ} {m:List T} {r:List T} {p:Option Addr} {cap:Nat} (w:World)
  (hB:Calls Tryz.prog 55 #[.slice p l.length cap,.int .i64 4] w (fun e w'=> ∃v,e= .returned v∧RS tqC 4 w' v lb∧Gr w.heap.size w w'))
  (hR:∀W p cap,RS tqC 4 W (.slice p lb.length cap) lb→Calls Tryz.prog 54 #[.slice p lb.length cap] W (RetP W m))
  (hO:∀W v,PL W 0 v m→Calls Tryz.prog 53 #[v] W (fun e w'=> ∃v',e= .returned (.tuple #[v',.int .i64 0])∧PL w' W.heap.size v' r∧Gr W.heap.size W w')):
  Calls Tryz.prog 21 #[.slice p l.length cap,.int .i64 4] w (RetP w r):=by
 replace hB:=Lh hB
 replace hR:=Lh hR
 replace hO:=Lh hO
 go_enter Tryz.func21,Tryz.ntmps21
 go_wp2_with fail
 refine hB.out.mono ?_
 rintro e w2 ⟨v2,rfl,hR2,hg2⟩
 obtain ⟨p2,c2,rfl⟩:=hR2.at
 have HR2:=Lh hR2
 have HG2:=Lh hg2
 clear hR2 hg2
 go_wp2_with fail
 refine(hR.out _ _ _ HR2.out).mono ?_
 rintro e w3 ⟨v3,rfl,hP3,hg3⟩
 have HP3:=Lh hP3
 have HG3:=Lh hg3
 clear hP3 hg3
 go_wp2_with fail
 refine(hO.out _ _ (HP3.out.mono (Nat.zero_le _))).mono ?_
 rintro e w4 ⟨v4,rfl,hP4,hg4⟩
 have HP4:=Lh hP4
 have HG4:=Lh hg4
 have h2:=HG2.out.size
 have h3:=HG3.out.size
 clear hP4 hg4
 go_wp2
 go_ret
 exact⟨_,rfl,HP4.out.mono (by omega),by exact gcc HG4 (gcc HG3 (gcc HG2 gzz))⟩
theorem pr_Made4 (l:List TQ) (hlen:l.length≤20) (hok:∀t∈l,t.ok) (p:Option Addr) (cap:Nat) (w:World) (hS:RS tqC 4 w (.slice p l.length cap) l):
  Calls Tryz.prog 21 #[.slice p l.length cap,.int .i64 4] w (RetP w (madeL l)):=by
 have e:(l.map br).map rawT=l.map brT:=by rw [List.map_map];exact List.map_congr_left fun t _=>rawT_br t
 refine Made_raw (m:=l.map brT) w (Brought_made l hlen p cap w hS) (fun W p cap h=>e ▸ Raw_walk (l.map br) (by simpa using hlen) (fun t ht=>?_) p cap W h) (fun W v h=>po_Of (l.map brT) v W h (ok_br l) ?_)
 ·obtain ⟨x,hx,rfl⟩:=List.mem_map.1 ht
  exact⟨Int.natCast_nonneg _,Int.natCast_nonneg _,(hok x hx).n,(hok x hx).d⟩
 ·have:=tot_br l hok
  omega
end Go.Proofs.YtfgmdhjmgdccdaaGreat
