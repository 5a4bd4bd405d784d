/-
  Part 43 of the proof: RawW.
-/
import Derived.Test.YtmelogdhllhjiaaGreatJ42
import Derived.Test.YtmelogdhllhjiaaGreatJ20
set_option linter.unusedSimpArgs false
set_option linter.unusedVariables false
namespace Go.Proofs.YtmelogdhllhjiaaGreat
open Go.RowKit Gus
section
variable {P:Program} (w:World) {o:Oper} {a:Act} {K:Act→World→Prop} {Q:Exit→Act→World→Prop}
theorem wp_appS {α:Type} {enc:α→List Value} {k:Nat} {t:TypeId} (s x:Operand) (ts:TypeId) (hop:o.op= .call {callee:= .builtin .append,args:= #[s,x],argTypes:= #[ts,ts]})
  (B:Nat) (i:TypeInfo) (z:Value) (bytes:Nat) (ht:P.underlying ts=some (.slice t)) (hi:P.info? t=some i) (hz:i.zero=some z) (hsize:i.size=k) (hby:i.bytes=bytes) (hzs:z.cells.size=k) (hk0:0<k) (hk:∀x,(enc x).length=k) (h1:∀x,∀v∈enc x,v.oneCell'=true)
  (v:Value) (l:List α) (hs:a.eval s=v) (hS:SL enc k t w B v l) (gx c:Nat) (l2:List α) (n2:Nat) (hn2:n2=l2.length) (hx:a.eval x= .slice (some ⟨gx,0,none⟩) n2 c) (hR:RC enc k w gx l2) (h63:l.length+l2.length≤maxLen) (hbytes:(l.length+l2.length)*bytes≤140737488355328) (hB:B≤w.heap.size)
  (h:∀v' w',SL enc k t w' B v' (l++l2)→Kp w w' v.ownBlock→(v'.ownBlock=v.ownBlock∨v'.ownBlock=some w.heap.size)→K (a.put o.dst v') w'):o.wp P a w K Q:=by
 subst hn2
 obtain ⟨v',w',hrun,h2,h3,_,h5⟩:=run_append_own_at (P:=P) w B ts o.type t i z k bytes ht hi hz hsize hby hzs hk0 v l.length (l.flatMap enc) (hS.own hk) ⟨gx,0,none⟩ l2.length c (l2.flatMap enc) (flat_len hk l2) (fun j u hj=>by rw [Addr.add_lit,Nat.zero_add];exact hR.flat hk j u hj) (fun u hu=>by
  obtain ⟨y,_,hy⟩:=List.mem_flatMap.1 hu
  exact h1 y u hy) h63 hbytes hB
 have hd:=run_drawn P _ _ _ _ hrun
 unfold Oper.wp execOp
 simp only [hop,resolve,invoke,builtin,Sem.run_bind,Sem.run_pure,Result.andThen_ok,List.map_toArray,List.map_cons,List.map_nil,hs,hx,hrun]
 refine h v' w' (SL.of_own ?_ hk) ⟨h3,hd⟩ h5
 rw [List.length_append,List.flatMap_append]
 exact h2
end
theorem RC.drew {α:Type} {enc:α→List Value} {k:Nat} {w:World} {g:Nat} {l:List α} (h:RC enc k w g l):RC enc k w.drew g l:=fun j hj i u hu=>h j hj i u hu
theorem tqC_len (t:TQ):(tqC t).length=4:=rfl
theorem tqC_one (x:TQ):∀v∈tqC x,v.oneCell'=true:=by
 intro v hv
 simp only [tqC,List.mem_cons,List.not_mem_nil,or_false]at hv
 rcases hv with rfl|rfl|rfl|rfl<;>rfl
theorem info_TQ:(Tryz.prog.info? 100).map (fun i=>(i.zero,i.size,i.bytes))=some (some (.agg #[.int .i64 0,.int .i64 0,.int .i64 0,.int .u32 0]),4,32):=by kernel_rfl
theorem row_TQ {w:World} {g o:Nat} {l:List TQ} (h:∀j (hj:j<l.length) (i:Nat) u,(tqC l[j])[i]? =some u→w.cell? ⟨g,o+j*4+i,none⟩=some u) {j:Nat} (hj:j<l.length) {t:TQ} (ht:l[j]=t):
  w.cell? ⟨g,o+j*4,none⟩=some (.int .i64 t.i)∧w.cell? ⟨g,o+j*4+1,none⟩=some (.int .i64 t.j)∧w.cell? ⟨g,o+j*4+2,none⟩=some (.int .i64 t.n)∧w.cell? ⟨g,o+j*4+3,none⟩=some (.int .u32 (t.d:Int)):=by
 subst ht
 exact⟨h j hj 0 _ rfl,h j hj 1 _ rfl,h j hj 2 _ rfl,h j hj 3 _ rfl⟩
theorem wrap64_id {n:Int} (h1: -9223372036854775808≤n) (h2:n≤9223372036854775807):IntKind.i64.wrap n=n:=by
 have h3:(2:Int) ^ IntKind.bits .i64=18446744073709551616:=by decide
 have h4:(2:Int) ^ (IntKind.bits .i64 - 1)=9223372036854775808:=by decide
 have h5:IntKind.signed .i64=true:=rfl
 simp only [IntKind.wrap,h3,h4,h5,Bool.true_and,decide_eq_true_eq]
 split<;>omega
theorem wrapU_id {n:Int} (h1:0≤n) (h2:n<18446744073709551616):IntKind.u64.wrap n=n:=by
 have h3:(2:Int) ^ IntKind.bits .u64=18446744073709551616:=by decide
 have h5:IntKind.signed .u64=false:=rfl
 simp only [IntKind.wrap,h3,h5,Bool.false_and,Bool.false_eq_true,if_false]
 omega
theorem wrapU_nonneg (n:Int):0≤IntKind.u64.wrap n∧IntKind.u64.wrap n<18446744073709551616:=by
 have h3:(2:Int) ^ IntKind.bits .u64=18446744073709551616:=by decide
 have h5:IntKind.signed .u64=false:=rfl
 simp only [IntKind.wrap,h3,h5,Bool.false_and,Bool.false_eq_true,if_false]
 omega
theorem br_a (i:Int):wrap64 ((IntKind.u64.wrap i).tmod 9)=(brI i:Int):=by
 have h:=wrapU_nonneg i
 have e:(IntKind.u64.wrap i).tmod 9=(brI i:Int):=by
  rw [Int.tmod_eq_emod_of_nonneg h.1];unfold brI;rw [Int.natCast_emod,Int.toNat_of_nonneg h.1];rfl
 rw [e]
 have:=brI_le i
 unfold wrap64;omega
theorem br_b (i j:Int):IntKind.i64.wrap ((IntKind.u64.wrap j).tmod (8 - (brI i:Int)+1))=(brJ i j:Int):=by
 have h:=wrapU_nonneg j
 have h8:=brI_le i
 have e:(IntKind.u64.wrap j).tmod (8 - (brI i:Int)+1)=(brJ i j:Int):=by
  rw [Int.tmod_eq_emod_of_nonneg h.1]
  unfold brJ
  rw [Int.natCast_emod,Int.toNat_of_nonneg h.1]
  congr 1
  omega
 rw [e]
 have:=brJ_le i j
 exact wrap64_id (n:=(brJ i j:Int)) (by omega) (by omega)
set_option maxRecDepth 20000 in
set_option maxHeartbeats 8000000 in
theorem Brought_walk (l:List TQ) (hlen:l.length≤20) (p:Option Addr) (cap:Nat) (w:World) (hS:RS tqC 4 w (.slice p l.length cap) l):
  Calls Tryz.prog 22 #[.slice p l.length cap,.int .i64 8] w (fun e w'=> ∃v,e= .returned v∧SL tqC 4 100 w' w.heap.size v (l.map br)∧Gr w.heap.size w w'):=by
 obtain ⟨i0,hi,hz0,hz1,hz2⟩:=info_parts info_TQ
 have HI:=Lib.hid (And.intro hi (And.intro hz0 (And.intro hz1 hz2)))
 have HS:=Lib.hid hS
 clear hS hi hz0 hz1 hz2
 go_enter Tryz.func22,Tryz.ntmps22
 go_wp2
 go_loopw [5,6] (fun v s wr=> ∃n:Nat,s= .int .i64 n∧n≤l.length∧Hid (SL tqC 4 100 wr w.heap.size v ((l.take n).map br))∧Hid (Gr w.heap.size w wr)) (fun _ s _=>l.length - (intOf s).toNat)
 case atStart=>exact⟨0,rfl,Nat.zero_le _,Lib.hid SL.nil,Lib.hid (Gr.refl _ _)⟩
 case round=>
  obtain ⟨n,rfl,hn,HP,HG⟩:=hrel
  have hszr:=HG.out.size
  by_cases hlt:n<l.length
  ·obtain ⟨t,ht⟩:∃t,l[n]=t:=⟨_,rfl⟩
   obtain ⟨g,o,c2,e1,hg,hR⟩:=(HS.out.gr HG.out).block (by intro e;rw [e]at hlt;simp at hlt)
   injection e1 with e1 _ e2
   subst e1 e2
   obtain ⟨v0,v1,v2,v3⟩:=row_TQ hR hlt ht
   have HT:=Lib.hid ht
   have hbi:=brI_le t.i
   have hbj:=brJ_le t.i t.j
   have hA7:=br_a t.i
   have hw1:IntKind.i64.wrap (8 - (brI t.i:Int))=8 - (brI t.i:Int):=wrap64_id (by omega) (by omega)
   have hw2:IntKind.i64.wrap (8 - (brI t.i:Int)+1)=8 - (brI t.i:Int)+1:=wrap64_id (by omega) (by omega)
   have hw3:IntKind.u64.wrap (8 - (brI t.i:Int)+1)=8 - (brI t.i:Int)+1:=wrapU_id (by omega) (by omega)
   have hw4:¬(8 - (brI t.i:Int)+1=0):=by omega
   have hw5:=br_b t.i t.j
   have hgw:g<wr.heap.size:=hg
   have hgB:g<w.heap.size:=by
    obtain ⟨g',o',c',e2,h2,_⟩:=HS.out.block (by intro e;rw [e]at hlt;simp at hlt)
    injection e2 with e2
    injection e2 with e2
    injection e2 with e2
    omega
   obtain ⟨acc,hacc⟩:∃acc,(l.take n).map br=acc:=⟨_,rfl⟩
   have hpl:acc.length≤20:=by rw [←hacc];simp;omega
   rw [hacc]at HP
   have HACC:=Lib.hid hacc
   obtain ⟨pa,pc,rfl⟩:=HP.out.at
   clear hR ht hacc
   go_upto_region 6 with fail
   rw [hA7]
   refine wp_region_held_drew (S:=(fun w'=>w'.cell? ⟨g,o+n*4+1,none⟩=some (.int .i64 t.j)∧w'.cell? ⟨g,o+n*4+2,none⟩=some (.int .i64 t.n)∧w'.cell? ⟨g,o+n*4+3,none⟩=some (.int .u32 (t.d:Int)))) (by kernel_rfl) ?_ (fun hHeld=>?_)
   ·simp [go_sem, *]
   refine tk 0 (some 25) (.slice pa acc.length pc) ?_
   try simp only [pS]
   refine tk 1 (some 26) (.int .i64 (brI t.i:Int)) ?_
   try simp only [pS]
   refine tk 2 (some 27) (.slice (some ⟨g,o,none⟩) l.length cap) ?_
   try simp only [pS]
   refine tk 3 (some 28) (.int .i64 (n:Int)) ?_
   try simp only [pS]
   refine tk 4 (some 29) (.pointer (some ⟨g,o+n*4,none⟩)) ?_
   try simp only [pS]
   refine tk 5 (some 30) (.pointer (some ⟨g,o+n*4+1,none⟩)) ?_
   try simp only [pS]
   refine tk 6 (some 31) (.int .i64 t.j) ?_
   try simp only [pS]
   refine tk 7 (some 32) (.int .u64 (IntKind.u64.wrap t.j)) ?_
   try simp only [pS]
   refine tk 8 (some 33) (.int .i64 8) ?_
   try simp only [pS]
   refine tk 9 (some 34) (.int .i64 (brI t.i:Int)) ?_
   try simp only [pS]
   refine tk 10 (some 35) (.int .i64 (8 - (brI t.i:Int))) ?_
   try simp only [pS]
   refine tk 11 (some 36) (.int .i64 (8 - (brI t.i:Int)+1)) ?_
   try simp only [pS]
   refine tk 12 (some 37) (.int .u64 (8 - (brI t.i:Int)+1)) ?_
   try simp only [pS]
   refine tk 13 (some 38) (.int .u64 ((IntKind.u64.wrap t.j).tmod (8 - (brI t.i:Int)+1))) ?_
   try simp only [pS]
   refine tk 14 (some 39) (.int .i64 (brJ t.i t.j:Int)) ?_
   try simp only [pS]
   refine tk 15 (some 40) (.slice (some ⟨g,o,none⟩) l.length cap) ?_
   try simp only [pS]
   refine tk 16 (some 41) (.int .i64 (n:Int)) ?_
   try simp only [pS]
   refine tk 17 (some 42) (.pointer (some ⟨g,o+n*4,none⟩)) ?_
   try simp only [pS]
   refine tk 18 (some 43) (.pointer (some ⟨g,o+n*4+2,none⟩)) ?_
   try simp only [pS]
   refine tk 19 (some 44) (.agg #[.int .i64 t.n,.int .u32 (t.d:Int)]) ?_
   try simp only [pS]
   refine tk 20 (some 45) (.agg #[.int .i64 (brI t.i:Int),.int .i64 (brJ t.i t.j:Int),.int .i64 t.n,.int .u32 (t.d:Int)]) ?_
   try simp only [pS]
   refine rd 21 (fun K hK=>?_)
   go_simp
   (try dsimp only)
   refine hK.out _ _ ?_ (fun hH2=>?_)
   ·(first|exact trivial|((try dsimp only);simp [go_sem, *]))
   clear hK K hHeld
   try simp only [pS]
   refine rd 22 (fun K hK=>?_)
   rw [if_pos (by rfl)]
   refine wp_appS _ _ _ 26 rfl w.heap.size i0 _ 32 Tryz.underlying26 HI.out.1 HI.out.2.1 HI.out.2.2.1 HI.out.2.2.2 rfl (by decide) tqC_len tqC_one (.slice pa acc.length pc) acc rfl (HP.out.gr (by(with_reducible (repeat' (first|exact Gr.refl _ _|refine Gr.drew ?_|refine Gr.setCell ?_ ?_ _|refine Gr.alloc ?_ ?_ _|omega|(simp;done)|(simp;omega)))))) wr.heap.size 1 [br t] 1 rfl rfl (RC.drew (RC.new1 rfl)) (by unfold maxLen;simp;omega) (by simp;omega) (by simp;omega) ?_
   intro v' w4 hS4 hkp4 _
   have hfar:∀q,w4.cell? ⟨g,q,none⟩=wr.cell? ⟨g,q,none⟩:=fun q=>(hkp4.cell (by simp;omega) (fun e=>by have:=HP.out.own_ge e.symm;omega)).trans ((show Gr wr.heap.size wr _ from by(with_reducible (repeat' (first|exact Gr.refl _ _|refine Gr.drew ?_|refine Gr.setCell ?_ ?_ _|refine Gr.alloc ?_ ?_ _|omega|(simp;done)|(simp;omega))))).cell (p:=⟨g,q,none⟩) hgw)
   have hgr4:Gr w.heap.size wr w4:=(show Gr w.heap.size wr _ from by(with_reducible (repeat' (first|exact Gr.refl _ _|refine Gr.drew ?_|refine Gr.setCell ?_ ?_ _|refine Gr.alloc ?_ ?_ _|omega|(simp;done)|(simp;omega))))).trans (hkp4.gr (fun b e=>HP.out.own_ge e) (by simp;omega))
   have HS4:=Lib.hid (And.intro hS4 hgr4)
   clear hS4 hkp4 hgr4
   refine hK.out _ _ ?_ (fun hH3=>?_)
   ·simp only [hfar];exact⟨v1,v2,v3⟩
   clear hK K hH2 hfar
   try simp only [pS]
   refine tk 23 (some 5) (v') ?_
   try simp only [pS]
   refine wpAnyH_done (by kernel_rfl) ?_ _
   go_wp2
   go_roundw
   case rel=>
    refine⟨n+1,by go_num,by omega,Lib.hid ?_,Lib.hid (HG.out.trans HS4.out.2)⟩
    rw [List.take_succ_eq_append_getElem hlt,List.map_append,HT.out,HACC.out]
    exact HS4.out.1
   case measure=>simp [intOf];omega
  ·obtain rfl:n=l.length:=by omega
   go_wp2
   go_ret
   exact⟨_,rfl,by have h:=HP.out;rw [List.take_length]at h;exact h,HG.out⟩
theorem Brought_made (l:List TQ) (hlen:l.length≤20) (p:Option Addr) (cap:Nat) (w:World) (hS:RS tqC 4 w (.slice p l.length cap) l):
  Calls Tryz.prog 22 #[.slice p l.length cap,.int .i64 8] w (fun e w'=> ∃v,e= .returned v∧RS tqC 4 w' v (l.map br)∧Gr w.heap.size w w'):=
 (Brought_walk l hlen p cap w hS).mono fun _ _ ⟨v,h1,h2,h3⟩=>⟨v,h1,h2.rs,h3⟩
def rawT (t:TQ):T:=⟨t.i.toNat,t.j.toNat,qQ t.n t.d⟩
theorem rawT_br (t:TQ):rawT (br t)=brT t:=by simp [rawT,br,brT]
set_option maxRecDepth 20000 in
set_option maxHeartbeats 8000000 in
theorem Raw_walk (l:List TQ) (hlen:l.length≤20) (hok:∀t∈l,0≤t.i∧0≤t.j∧i64ok t.n∧t.d<4294967296) (p:Option Addr) (cap:Nat) (w:World) (hS:RS tqC 4 w (.slice p l.length cap) l):
  Calls Tryz.prog 21 #[.slice p l.length cap] w (RetP w (l.map rawT)):=by
 obtain ⟨i0,hi,hz0,hz1,hz2⟩:=info_parts info_T
 have HI:=Lib.hid (And.intro hi (And.intro hz0 (And.intro hz1 hz2)))
 have HS:=Lib.hid hS
 have HOK:=Lib.hid hok
 clear hS hi hz0 hz1 hz2 hok
 go_enter Tryz.func21,Tryz.ntmps21
 go_wp2
 go_loopw [3,4] (fun v s wr=> ∃n:Nat,s= .int .i64 n∧n≤l.length∧Hid (PL wr w.heap.size v ((l.take n).map rawT))∧Hid (Gr w.heap.size w wr)) (fun _ s _=>l.length - (intOf s).toNat)
 case atStart=>exact⟨0,rfl,Nat.zero_le _,Lib.hid SL.nil,Lib.hid (Gr.refl _ _)⟩
 case round=>
  obtain ⟨n,rfl,hn,HP,HG⟩:=hrel
  have hszr:=HG.out.size
  by_cases hlt:n<l.length
  ·obtain ⟨t,ht⟩:∃t,l[n]=t:=⟨_,rfl⟩
   obtain ⟨g,o,c2,e1,hg,hR⟩:=(HS.out.gr HG.out).block (by intro e;rw [e]at hlt;simp at hlt)
   injection e1 with e1 _ e2
   subst e1 e2
   obtain ⟨v0,v1,v2,v3⟩:=row_TQ hR hlt ht
   obtain ⟨k0,k1,k2,k3⟩:=HOK.out t (ht ▸ List.getElem_mem hlt)
   have HQ:=Lib.hid (fun w=>q_Of t.n t.d w k2.1 k2.2 k3)
   obtain ⟨ti,hti⟩:∃k:Nat,t.i=(k:Int):=⟨t.i.toNat,by omega⟩
   obtain ⟨tj,htj⟩:∃k:Nat,t.j=(k:Int):=⟨t.j.toNat,by omega⟩
   obtain ⟨c,hc⟩:∃c,qQ t.n t.d=c:=⟨_,rfl⟩
   rw [hti]at v0
   rw [htj]at v1
   rw [hc]at HQ
   have HT:=Lib.hid (show rawT l[n]=⟨ti,tj,c⟩ by rw [ht];unfold rawT;rw [hti,htj,hc];rfl)
   have hgw:g<wr.heap.size:=hg
   have hgB:g<w.heap.size:=by
    obtain ⟨g',o',c',e2,h2,_⟩:=HS.out.block (by intro e;rw [e]at hlt;simp at hlt)
    injection e2 with e2
    injection e2 with e2
    injection e2 with e2
    omega
   obtain ⟨acc,hacc⟩:∃acc,(l.take n).map rawT=acc:=⟨_,rfl⟩
   have hpl:acc.length≤20:=by rw [←hacc];simp;omega
   rw [hacc]at HP
   have HACC:=Lib.hid hacc
   obtain ⟨pa,pc,rfl⟩:=HP.out.at
   clear hR ht hacc hti htj hc k0 k1 k2 k3
   go_upto_region 5 with fail
   refine wp_region_held_drew (S:=(fun w'=>w'.cell? ⟨g,o+n*4,none⟩=some (.int .i64 (ti:Int))∧w'.cell? ⟨g,o+n*4+1,none⟩=some (.int .i64 (tj:Int))∧w'.cell? ⟨g,o+n*4+2,none⟩=some (.int .i64 t.n)∧w'.cell? ⟨g,o+n*4+3,none⟩=some (.int .u32 (t.d:Int)))) (by kernel_rfl) ?_ (fun hHeld=>?_)
   ·simp [go_sem, *]
   refine tk 0 (some 11) (.slice pa acc.length pc) ?_
   try simp only [pS]
   refine tk 1 (some 12) (.slice (some ⟨g,o,none⟩) l.length cap) ?_
   try simp only [pS]
   refine tk 2 (some 13) (.int .i64 (n:Int)) ?_
   try simp only [pS]
   refine tk 3 (some 14) (.pointer (some ⟨g,o+n*4,none⟩)) ?_
   try simp only [pS]
   refine tk 4 (some 15) (.pointer (some ⟨g,o+n*4,none⟩)) ?_
   try simp only [pS]
   refine tk 5 (some 16) (.int .i64 (ti:Int)) ?_
   try simp only [pS]
   refine tk 6 (some 17) (.slice (some ⟨g,o,none⟩) l.length cap) ?_
   try simp only [pS]
   refine tk 7 (some 18) (.int .i64 (n:Int)) ?_
   try simp only [pS]
   refine tk 8 (some 19) (.pointer (some ⟨g,o+n*4,none⟩)) ?_
   try simp only [pS]
   refine tk 9 (some 20) (.pointer (some ⟨g,o+n*4+1,none⟩)) ?_
   try simp only [pS]
   refine tk 10 (some 21) (.int .i64 (tj:Int)) ?_
   try simp only [pS]
   refine tk 11 (some 22) (.slice (some ⟨g,o,none⟩) l.length cap) ?_
   try simp only [pS]
   refine tk 12 (some 23) (.int .i64 (n:Int)) ?_
   try simp only [pS]
   refine tk 13 (some 24) (.pointer (some ⟨g,o+n*4,none⟩)) ?_
   try simp only [pS]
   refine tk 14 (some 25) (.pointer (some ⟨g,o+n*4+2,none⟩)) ?_
   try simp only [pS]
   refine tk 15 (some 26) (.agg #[.int .i64 t.n,.int .u32 (t.d:Int)]) ?_
   try simp only [pS]
   refine rd 16 (fun K hK=>?_)
   go_simp
   (refine(HQ.out _).mono ?_;rintro e w2 ⟨rfl,hg2⟩;(try (with_reducible replace hg2:=Gr.of_drew hg2));have hsz2:=hg2.size;(try simp at hsz2);have hy2_0:g<w2.heap.size:=(by omega);obtain ⟨hc2,hf2⟩:=hg2.cells;have HG2:=Lib.hid hg2;clear hg2)
   (try dsimp only)
   refine hK.out _ _ ?_ (fun hH2=>?_)
   ·(first|exact trivial|((try dsimp only);simp [go_sem, *]))
   clear hK K hHeld
   try simp only [pS]
   refine tk 17 (some 28) (.agg #[.int .i64 (ti:Int),.int .i64 (tj:Int),.int .u64 (lowN (sz c.num)),.string (bigS (sz c.num)),.bool (ng c.num),.int .u64 (lowN (fm c)),.string (bigS (fm c))]) ?_
   try simp only [pS]
   refine rd 18 (fun K hK=>?_)
   go_simp
   (try dsimp only)
   refine hK.out _ _ ?_ (fun hH3=>?_)
   ·(first|exact trivial|((try dsimp only);simp [go_sem, *]))
   clear hK K hH2
   try simp only [pS]
   refine rd 19 (fun K hK=>?_)
   rw [if_pos (by rfl)]
   refine wp_appS _ _ _ 41 rfl w.heap.size i0 _ 72 Tryz.underlying41 HI.out.1 HI.out.2.1 HI.out.2.2.1 HI.out.2.2.2 rfl (by decide) tC_len tC_one (.slice pa acc.length pc) acc rfl (HP.out.gr (by(with_reducible (repeat' (first|exact Gr.refl _ _|refine Gr.drew ?_|refine Gr.setCell ?_ ?_ _|refine Gr.alloc ?_ ?_ _|refine Gr.trans ?_ (Gr.mono HG2.out ?_)|omega|(simp;done)|(simp;omega)))))) w2.heap.size 1 [⟨ti,tj,c⟩] 1 rfl rfl (RC.drew (RC.new1 rfl)) (by unfold maxLen;simp;omega) (by simp;omega) (by simp;omega) ?_
   intro v' w4 hS4 hkp4 _
   have hfar:∀q,w4.cell? ⟨g,q,none⟩=wr.cell? ⟨g,q,none⟩:=fun q=>(hkp4.cell (by simp;omega) (fun e=>by have:=HP.out.own_ge e.symm;omega)).trans ((show Gr wr.heap.size wr _ from by(with_reducible (repeat' (first|exact Gr.refl _ _|refine Gr.drew ?_|refine Gr.setCell ?_ ?_ _|refine Gr.alloc ?_ ?_ _|refine Gr.trans ?_ (Gr.mono HG2.out ?_)|omega|(simp;done)|(simp;omega))))).cell (p:=⟨g,q,none⟩) hgw)
   have hgr4:Gr w.heap.size wr w4:=(show Gr w.heap.size wr _ from by(with_reducible (repeat' (first|exact Gr.refl _ _|refine Gr.drew ?_|refine Gr.setCell ?_ ?_ _|refine Gr.alloc ?_ ?_ _|refine Gr.trans ?_ (Gr.mono HG2.out ?_)|omega|(simp;done)|(simp;omega))))).trans (hkp4.gr (fun b e=>HP.out.own_ge e) (by simp;omega))
   have HS4:=Lib.hid (And.intro hS4 hgr4)
   clear hS4 hkp4 hgr4
   refine hK.out _ _ ?_ (fun hH4=>?_)
   ·simp only [hfar];exact⟨v0,v1,v2,v3⟩
   clear hK K hH3 hfar
   try simp only [pS]
   refine tk 20 (some 3) (v') ?_
   try simp only [pS]
   refine wpAnyH_done (by kernel_rfl) ?_ _
   go_wp2
   go_roundw
   case rel=>
    refine⟨n+1,by go_num,by omega,Lib.hid ?_,Lib.hid (HG.out.trans HS4.out.2)⟩
    rw [List.take_succ_eq_append_getElem hlt,List.map_append,HACC.out]
    show PL _ _ _ (acc++ [rawT l[n]])
    rw [HT.out]
    exact HS4.out.1
   case measure=>simp [intOf];omega
  ·obtain rfl:n=l.length:=by omega
   go_wp2
   go_ret
   exact⟨_,rfl,by have h:=HP.out;rw [List.take_length]at h;exact h,HG.out⟩
set_option maxRecDepth 20000 in
set_option maxHeartbeats 8000000 in
theorem Made_raw {l lb:List TQ} {m:List T} {r:List T} {p:Option Addr} {cap:Nat} (w:World)
  (hB:Calls Tryz.prog 22 #[.slice p l.length cap,.int .i64 8] w (fun e w'=> ∃v,e= .returned v∧RS tqC 4 w' v lb∧Gr w.heap.size w w'))
  (hR:∀W p cap,RS tqC 4 W (.slice p lb.length cap) lb→Calls Tryz.prog 21 #[.slice p lb.length cap] W (RetP W m))
  (hO:∀W v,PL W 0 v m→Calls Tryz.prog 17 #[v] W (fun e w'=> ∃v',e= .returned (.tuple #[v',.int .i64 0])∧PL w' W.heap.size v' r∧Gr W.heap.size W w')):
  Calls Tryz.prog 6 #[.slice p l.length cap,.int .i64 8] w (RetP w r):=by
 replace hB:=Lib.hid hB
 replace hR:=Lib.hid hR
 replace hO:=Lib.hid hO
 go_enter Tryz.func6,Tryz.ntmps6
 go_wp2_with fail
 refine hB.out.mono ?_
 rintro e w2 ⟨v2,rfl,hR2,hg2⟩
 obtain ⟨p2,c2,rfl⟩:=hR2.at
 have HR2:=Lib.hid hR2
 have HG2:=Lib.hid hg2
 clear hR2 hg2
 go_wp2_with fail
 refine(hR.out _ _ _ HR2.out).mono ?_
 rintro e w3 ⟨v3,rfl,hP3,hg3⟩
 have HP3:=Lib.hid hP3
 have HG3:=Lib.hid hg3
 clear hP3 hg3
 go_wp2_with fail
 refine(hO.out _ _ (HP3.out.mono (Nat.zero_le _))).mono ?_
 rintro e w4 ⟨v4,rfl,hP4,hg4⟩
 have HP4:=Lib.hid hP4
 have HG4:=Lib.hid hg4
 have h2:=HG2.out.size
 have h3:=HG3.out.size
 clear hP4 hg4
 go_wp2
 go_ret
 exact⟨_,rfl,HP4.out.mono (by omega),by(with_reducible (repeat' (first|exact Gr.refl _ _|refine Gr.drew ?_|refine Gr.setCell ?_ ?_ _|refine Gr.alloc ?_ ?_ _|refine Gr.trans ?_ (Gr.mono HG4.out ?_)|refine Gr.trans ?_ (Gr.mono HG3.out ?_)|refine Gr.trans ?_ (Gr.mono HG2.out ?_)|omega|(simp;done)|(simp;omega))))⟩
theorem pr_Made8 (l:List TQ) (hlen:l.length≤20) (hok:∀t∈l,t.ok) (p:Option Addr) (cap:Nat) (w:World) (hS:RS tqC 4 w (.slice p l.length cap) l):
  Calls Tryz.prog 6 #[.slice p l.length cap,.int .i64 8] w (RetP w (madeL l)):=by
 have e:(l.map br).map rawT=l.map brT:=by rw [List.map_map];exact List.map_congr_left fun t _=>rawT_br t
 refine Made_raw (m:=l.map brT) w (Brought_made l hlen p cap w hS) (fun W p cap h=>e ▸ Raw_walk (l.map br) (by simpa using hlen) (fun t ht=>?_) p cap W h) (fun W v h=>po_Of (l.map brT) v W h (ok_br l) ?_)
 ·obtain ⟨x,hx,rfl⟩:=List.mem_map.1 ht
  exact⟨Int.natCast_nonneg _,Int.natCast_nonneg _,(hok x hx).n,(hok x hx).d⟩
 ·have:=tot_br l hok
  omega
end Go.Proofs.YtmelogdhllhjiaaGreat
