/-
  Part 26 of the proof: PolF PolG.
-/
import Derived.Test.YtfgmdhjmgdccdaaGreatJ25
set_option linter.unusedSimpArgs false
set_option linter.unusedVariables false
set_option maxHeartbeats 8000000
namespace Go.Proofs.YtfgmdhjmgdccdaaGreat
open Go.RowKit Gus Go.Maps
def tot:List T→Nat
 | []=>0
 | t :: r=>hw t.c+1+tot r
theorem tot_mem {l:List T} {t:T} (h:t∈l):hw t.c+1≤tot l:=by
 induction l with
 | nil=>cases h
 | cons y r ih=>
  simp only [tot]
  rcases List.mem_cons.1 h with e|e
  ·subst e;omega
  ·have:=ih e;omega
theorem tot_len (l:List T):l.length≤tot l:=by
 induction l with
 | nil=>exact Nat.le_refl _
 | cons y r ih=>simp only [tot,List.length_cons];omega
theorem tot_add (t:T):∀l:List T,tot (addT l t)≤tot l+(hw t.c+1)
 | []=>by simp [addT,tot,Rat.zero_add]
 | h :: r=>by
  unfold addT
  split
  ·have:=hw_add h.c t.c
   simp only [tot];omega
  ·have:=tot_add t r
   simp only [tot];omega
theorem tot_fold:∀(l acc:List T),tot (l.foldl addT acc)≤tot acc+tot l
 | [],acc=>by simp [tot]
 | t :: r,acc=>by
  rw [List.foldl_cons]
  have h1:=tot_fold r (addT acc t)
  have h2:=tot_add t acc
  simp only [tot];omega
theorem tot_perm {l m:List T} (h:l.Perm m):tot l=tot m:=by
 induction h with
 | nil=>rfl
 | cons x _ ih=>simp only [tot,ih]
 | swap x y l=>simp only [tot];omega
 | trans _ _ h1 h2=>exact h1.trans h2
theorem tot_filter (p:T→Bool):∀l:List T,tot (l.filter p)≤tot l
 | []=>Nat.le_refl _
 | t :: r=>by
  have:=tot_filter p r
  rw [List.filter_cons]
  split<;>simp only [tot]<;>omega
theorem tot_gat (l:List T):tot (gat l)≤tot l:=by
 unfold gat gather
 rw [tot_perm (sortT_perm _)]
 have h1:=tot_fold l []
 have h2:=tot_filter (fun t=> !decide (t.c=0)) (l.foldl addT [])
 simp only [tot]at h1
 unfold kept
 omega
theorem tot_append (l m:List T):tot (l++m)=tot l+tot m:=by
 induction l with
 | nil=>simp [tot]
 | cons t r ih=>simp only [List.cons_append,tot,ih];omega
theorem tot_take (l:List T) (n:Nat):tot (l.take n)≤tot l:=by
 have:=tot_append (l.take n) (l.drop n)
 rw [List.take_append_drop]at this
 omega
theorem tC_one (x:T):∀v∈tC x,v.oneCell'=true:=by
 intro v hv
 simp only [tC,List.mem_cons,List.not_mem_nil,or_false]at hv
 rcases hv with rfl|rfl|rfl|rfl|rfl|rfl|rfl<;>rfl
theorem info_T:(Tryz.prog.info? 111).map (fun i=>(i.zero,i.size,i.bytes))=some (some (.agg #[.int .i64 0,.int .i64 0,zU,zS,.bool false,zU,zS]),7,72):=by kernel_rfl
theorem idx_cases (acc:List T) (i j:Nat):idxT acc i j=none∨∃k,idxT acc i j=some k:=by cases idxT acc i j;exact .inl rfl;exact .inr ⟨_,rfl⟩
theorem SL.own_lt {α:Type} {enc:α→List Value} {k:Nat} {t:TypeId} {w:World} {B g:Nat} {v:Value} {l:List α} (h:SL enc k t w B v l) (hg:v.ownBlock=some g):g<w.heap.size:=by
 rcases h with⟨rfl,_⟩|⟨g',cap,rfl,h2,_,_,h5,_⟩
 ·cases hg
 ·cases hg;exact h5.lt
theorem tC_zero (i j:Nat):tC ⟨i,j,0⟩= [.int .i64 (i:Int),.int .i64 (j:Int),zU,zS,.bool false,zU,zS]:=by
 have e1:lowN 0=0:=lowN_small (by omega)
 have e2:bigS 0=⟨#[]⟩:=bigS_small (by omega)
 show [Value.int .i64 (i:Int),.int .i64 (j:Int),.int .u64 (lowN 0),.string (bigS 0),.bool false,.int .u64 (lowN 0),.string (bigS 0)]=_
 rw [e1,e2];rfl
theorem addT_ne (p:List T) (t:T):addT p t≠ []:=by
 cases p with
 | nil=>simp [addT]
 | cons h r=>unfold addT;split<;>simp
theorem fold_ne:∀(l acc:List T),acc≠ []→l.foldl addT acc≠ []
 | [],_,h=>h
 | t :: r,acc,_=>by rw [List.foldl_cons];exact fold_ne r _ (addT_ne acc t)
theorem gather_ne {l:List T} (h:l≠ []):gather l≠ []:=by
 cases l with
 | nil=>exact absurd rfl h
 | cons t r=>unfold gather;rw [List.foldl_cons];exact fold_ne r _ (addT_ne [] t)
theorem zero_tells:TellsAll tV 87 #[] fun t=>decide (t.c=0):=
 ⟨enters_of Tryz.func87 (by kernel_rfl) rfl,fun W x=>by rw [Array.append_empty];exact po_zero x W⟩
theorem order_tells:Orders tV 90 #[] ordW:=
 ⟨enters_of Tryz.func90 (by kernel_rfl) rfl,fun W x y=>by rw [Array.append_empty];exact po_order x y W⟩
structure GL (w:World) (l:List T) (wr:World) (n:Nat) (p:Value) (acc:List T):Prop where
 le:n≤l.length
 acc_:acc=(l.take n).foldl addT []
 p_:PL wr (w.heap.size+1) p acc
 map_:MP wr w.heap.size acc
 gr:Gr w.heap.size w wr
 sz:w.heap.size+1≤wr.heap.size
set_option maxRecDepth 20000 in
theorem gathered_walk (l:List T) (ga cap:Nat) (w:World) (hS:PL w 0 (.slice (some ⟨ga,0,none⟩) l.length cap) l) (hne:l≠ []) (hok:∀t∈l,t.ok) (ht:tot l≤100000000000):
  Calls Tryz.prog 42 #[.slice (some ⟨ga,0,none⟩) l.length cap] w (fun e w'=> ∃v',e= .returned v'∧PL w' w.heap.size v' (gat l)∧Gr w.heap.size w w'):=by
 obtain ⟨ga',cap',e1,_,_,_,hsh,hR⟩:=hS.block hne
 cases e1
 have hga:=hsh.lt
 obtain ⟨i0,hi,hz0,hz1,hz2⟩:=info_parts info_T
 have HI:=Lh (And.intro hi (And.intro hz0 (And.intro hz1 hz2)))
 have hlen:=tot_len l
 have hl2:(l.length:Int)≤9223372036854775807:=by omega
 have HR:=Lh hR
 have HOK:=Lh hok
 have HT:=Lh (And.intro ht hlen)
 have HNE:=Lh hne
 clear hS hR hok ht hlen hsh hi hz0 hz1 hz2 hne
 have hmm:= @run_makeMap Tryz.prog
 go_enter Tryz.func42,Tryz.ntmps42
 go_wp2
 go_loopw [2,11] (fun p s wr=> ∃n acc,s= .int .i64 (n:Nat)∧Hid (GL w l wr n p acc)) (fun _ s _=>l.length - (intOf s).toNat)
 case atStart=>exact⟨0,[],rfl,Nat.zero_le _,rfl,SL.nil,MP.start w,(Gr.refl _ _).alloc (Nat.le_refl _) _,by simp⟩
 case round=>
  obtain ⟨n,acc,rfl,HGL⟩:=hrel
  have hnle:=HGL.out.le
  have hgr:=HGL.out.gr
  by_cases hlt:n<l.length
  ·obtain ⟨t,ht⟩:∃t,l[n]=t:=⟨_,rfl⟩
   have hok:=HOK.out t (ht ▸ List.getElem_mem hlt)
   unfold T.ok at hok
   obtain ⟨v0,v1,v2,v3,v4,v5,v6⟩:=(HR.out.gr hgr hga).term hlt ht
   have hsz:=HGL.out.sz
   have hp1:=HGL.out.p_
   have hm1:=HGL.out.map_
   have HTN:=Lh ht
   have HP1:=Lh hp1
   have HM1:=Lh hm1
   have hgaw:ga<wr.heap.size:=by omega
   have hT:tot acc≤100000000000:=by
    have h1:=HGL.out.acc_
    have h2:=tot_fold (l.take n) []
    have h3:=tot_take l n
    have h5:=HT.out.1
    rw [←h1]at h2
    simp only [tot]at h2
    omega
   have hal:acc.length≤100000000000:=by have:=tot_len acc;omega
   have hwt:hw t.c≤100000000000:=by
    have h1:=tot_mem (HTN.out ▸ List.getElem_mem hlt:t∈l)
    have h5:=HT.out.1
    omega
   have HTA:=Lh hT
   have HWT:=Lh hwt
   clear hgr ht hp1 hm1 hT hwt
   rcases idx_cases acc t.i t.j with hix|⟨k,hix⟩
   ·have HIX:=Lh hix
    clear hix
    obtain ⟨pa,pc,rfl⟩:=HP1.out.at
    have hne1:¬wr.heap.size=w.heap.size:=by omega
    obtain ⟨c0,HC0⟩:∃c0:Rat,Hid (c0=0):=⟨_,rfl⟩
    have HADD:=Lh (fun W=>fr_Add c0 t.c W (by rw [HC0.out];exact Nat.le_trans (hw_int 0 (by omega) (by omega)) (by omega)) HWT.out)
    go_wp2_with (first
     | (at_lookup;refine wpList_look_none _ (HM1.out.gr (B:=wr.heap.size) (by exact gzz) (by omega)) (by omega) (by omega) HIX.out rfl _ _ rfl rfl rfl ?_;intro c)
     | (at_mapUpdate;refine wpList_upd _ (HM1.out.gr (B:=wr.heap.size) (by exact gzz) (by omega)) (by omega) (by omega) HIX.out (by omega) rfl _ _ _ rfl rfl rfl rfl ?_;intro w2 hmp hkp;have hc2:∀b o,b<wr.heap.size+1→¬b=w.heap.size→w2.cell? ⟨b,o,none⟩=_:=fun b o h1 h2=>hkp.cell (by simpa using h1) (fun e=>h2 (Option.some.inj e));have hsz2:=hkp.g.size;(try simp at hsz2);have HMP:=Lh hmp;have HKP:=Lh hkp;have HP2:=Lh (hkp.sl (HP1.out.gr (by exact gzz)) (fun g hg e=>by have:=HP1.out.own_ge hg;have:=Option.some.inj e;omega));clear hmp hkp)
     | (at_builtin;refine wpList_appS _ rfl _ _ 46 rfl (w.heap.size+1) i0 _ 72 Tryz.underlying46 HI.out.1 HI.out.2.1 HI.out.2.2.1 HI.out.2.2.2 rfl (by decide) tC_len tC_one _ acc rfl (HP2.out.gr (by exact gzz)) w2.heap.size _ [⟨t.i,t.j,0⟩] 1 rfl rfl (RC.new1 (tC_zero t.i t.j)) (by unfold maxLen;simp;omega) (by simp;omega) (by simp;omega) ?_;intro v' w3 hS3 hkp3 hat3))
    have hmp3:=(HMP.out c0).kp (Kp.alloc w2 _) (by simp) |>.kp hkp3 (fun e=>by have:=HP1.out.own_ge e.symm;omega)
    have hg3:Gr w.heap.size w w3:=(HGL.out.gr.trans (by exact gzz:Gr w.heap.size wr _)).trans (HKP.out.gr (fun b e=>by have:=Option.some.inj e;omega) (by simp;omega)) |>.trans ((Kp.alloc w2 _).gr (fun b e=>by cases e) (by omega)) |>.trans (hkp3.gr (fun b e=>by have:=HP1.out.own_ge e;omega) (by simp;omega))
    rw [←HC0.out]at hS3
    obtain ⟨g3,c3,rfl,hgB,hcap3,hcm3,hsh3,hR3⟩:=hS3.block (by simp)
    have hk2:acc.length<(acc++ [(⟨t.i,t.j,c0⟩:T)]).length:=by simp
    have hy2:(acc++ [(⟨t.i,t.j,c0⟩:T)])[acc.length]=⟨t.i,t.j,c0⟩:=by simp
    obtain ⟨r0,r1,r2,r3,r4,r5,r6⟩:=hR3.term hk2 hy2
    have hb3:∀o,w3.cell? ⟨wr.heap.size,o,none⟩=_:=fun o=>hkp3.cell (by simp;omega) (fun e=>by have:=HP1.out.own_lt e.symm;omega)
    have hq1:wr.heap.size<w2.heap.size:=by omega
    have hq2:¬wr.heap.size=w2.heap.size:=by omega
    have x2:w3.cell? ⟨wr.heap.size,2,none⟩=some (vA t.c):=by rw [hb3];simp [go_sem, *]
    have x3:w3.cell? ⟨wr.heap.size,3,none⟩=some (vB t.c):=by rw [hb3];simp [go_sem, *]
    have x4:w3.cell? ⟨wr.heap.size,4,none⟩=some (vC t.c):=by rw [hb3];simp [go_sem, *]
    have x5:w3.cell? ⟨wr.heap.size,5,none⟩=some (vD t.c):=by rw [hb3];simp [go_sem, *]
    have x6:w3.cell? ⟨wr.heap.size,6,none⟩=some (vE t.c):=by rw [hb3];simp [go_sem, *]
    have hg3w:¬g3=wr.heap.size:=fun e=>by
     rcases hat3 with h|h
     ·have:=HP1.out.own_lt (g:=g3) h.symm;omega
     ·have:=Option.some.inj h;simp at this;omega
    clear hb3 hc2
    have hfr3:=hsh3.frozen
    have hlt3:=hsh3.lt
    have hsz3:=hkp3.g.size
    (try simp at hsz3)
    have HS3:=Lh hS3
    have HM3:=Lh hmp3
    have HG3:=Lh hg3
    have HY2:=Lh hy2
    have HA2:=Lh (show addT acc t=(acc++ [(⟨t.i,t.j,c0⟩:T)]).set acc.length ⟨t.i,t.j,c0+t.c⟩ by rw [addT_new HIX.out,HC0.out];simp)
    clear hS3 hmp3 hg3 hy2 hkp3 hat3 hR3 hsh3 r0 r1
    generalize acc++ [(⟨t.i,t.j,c0⟩:T)]=acc2 at *
    have hq3:wr.heap.size<w3.heap.size:=by omega
    have hk3:(acc.length:Int)<(acc2.length:Int):=by omega
    refine wp_region_held_drew (S:=(fun w'=>w'.cell? ⟨wr.heap.size,2,none⟩=some (vA t.c)∧w'.cell? ⟨wr.heap.size,3,none⟩=some (vB t.c)∧w'.cell? ⟨wr.heap.size,4,none⟩=some (vC t.c)∧w'.cell? ⟨wr.heap.size,5,none⟩=some (vD t.c)∧w'.cell? ⟨wr.heap.size,6,none⟩=some (vE t.c))) (by kernel_rfl) ?_ (fun hHeld=>?_)
    ·simp [go_sem, *]
    refine tq 0 44 (.slice (some ⟨g3,0,none⟩) acc2.length c3) ?_
    refine tq 1 45 (.int .i64 (acc.length:Int)) ?_
    refine tq 2 46 (.slice (some ⟨g3,0,none⟩) acc2.length c3) ?_
    refine tq 3 47 (.int .i64 (acc.length:Int)) ?_
    refine tq 4 48 (.pointer (some ⟨g3,acc.length*7,none⟩)) ?_
    refine tq 5 49 (.pointer (some ⟨g3,acc.length*7+2,none⟩)) ?_
    refine tq 7 51 (.pointer (some ⟨wr.heap.size,2,none⟩)) ?_
    refine tq 8 52 (frV t.c.num (fm t.c)) ?_
    refine rd 6 (fun K hK=>?_)
    go_simp
    refine kO hK fun hH2=>?_
    clear hK K hHeld
    refine rd 9 (fun K hK=>?_)
    go_simp
    (refine rtu (HADD.out _) fun w4 hsz4 hl4 hc4 hf4 HG4=>?_;(try simp at hsz4))
    refine kO hK fun hH3=>?_
    clear hK K hH2
    refine tq 10 54 (.pointer (some ⟨g3,acc.length*7,none⟩)) ?_
    refine tq 11 55 (.pointer (some ⟨g3,acc.length*7+2,none⟩)) ?_
    refine rd 12 (fun K hK=>?_)
    go_simp
    refine kO hK fun hH4=>?_
    clear hK K hH3
    refine wpAnyH_done (by kernel_rfl) ?_ _
    go_wp2
    go_roundw
    case rel=>
     have hgr4:Gr w3.heap.size w3 w4:=by exact gcc HG4 gzz
     have hS4:=HS3.out.gr hgr4
     have hput:=SL.put hS4 tC_len hk2 ⟨t.i,t.j,c0+t.c⟩ 2 (fracC (c0+t.c)) (by rw [HY2.out];rfl) (by simp)
     have hgw:Gr (w.heap.size+1) w3 (w4.setCells g3 (acc.length*7+2) (fracC (c0+t.c))):=Gr.sets (by omega) _ _ (hgr4.mono (by omega))
     have hmp:=(HM3.out.set hk2 (c0+t.c)).gr hgw (by omega)
     rw [HY2.out]at hmp
     refine⟨n+1,acc2.set acc.length ⟨t.i,t.j,c0+t.c⟩,by go_num,⟨by omega,?_,?_,hmp,HG3.out.trans (hgw.mono (by omega)),Nat.le_trans (by omega:w.heap.size+1≤w3.heap.size) hgw.size⟩⟩
     ·rw [List.take_succ_eq_append_getElem hlt,List.foldl_append,←HGL.out.acc_,HTN.out,←HA2.out];rfl
     ·exact hput
    case measure=>simp [intOf];omega
   ·have HIX:=Lh hix
    obtain ⟨hk2,hki,hkj⟩:=idxT_lt hix
    obtain ⟨g3,c3,rfl,hgB,hcap3,hcm3,hsh3,hR3⟩:=HP1.out.block (by intro e;rw [e]at hk2;simp at hk2)
    obtain ⟨c0,HC0⟩:∃c0:Rat,Hid (acc[k].c=c0):=⟨acc[k].c,Lh rfl⟩
    have hy2:acc[k]=⟨t.i,t.j,c0⟩:=by rw [←HC0.out,←hki,←hkj]
    have HADD:=Lh (fun W=>fr_Add c0 t.c W (by have h1:hw c0+1≤tot acc:=by {have:=tot_mem (List.getElem_mem hk2);rwa [hy2]at this};have h2:=HTA.out;omega) HWT.out)
    obtain ⟨r0,r1,r2,r3,r4,r5,r6⟩:=hR3.term hk2 hy2
    have hfr3:=hsh3.frozen
    have hlt3:=hsh3.lt
    have hg3w:¬g3=wr.heap.size:=by omega
    have hg3w':¬wr.heap.size=g3:=by omega
    have hlt4:g3<wr.heap.size+1:=by omega
    have HY2:=Lh hy2
    have HA2:=Lh (show addT acc t=acc.set k ⟨t.i,t.j,c0+t.c⟩ by rw [addT_old HIX.out hk2,hy2])
    have hk3:(k:Int)<(acc.length:Int):=by omega
    clear hix hki hkj hy2 hsh3 hR3 r0 r1
    go_wp2_with (at_lookup;refine wpList_look_some _ (HM1.out.gr (B:=wr.heap.size) (by exact gzz) (by omega)) (by omega) (by omega) HIX.out rfl _ _ rfl rfl rfl ?_)
    refine wp_region_held_drew (S:=(fun w'=>w'.cell? ⟨wr.heap.size,2,none⟩=some (vA t.c)∧w'.cell? ⟨wr.heap.size,3,none⟩=some (vB t.c)∧w'.cell? ⟨wr.heap.size,4,none⟩=some (vC t.c)∧w'.cell? ⟨wr.heap.size,5,none⟩=some (vD t.c)∧w'.cell? ⟨wr.heap.size,6,none⟩=some (vE t.c))) (by kernel_rfl) ?_ (fun hHeld=>?_)
    ·simp [go_sem, *]
    refine tq 0 44 (.slice (some ⟨g3,0,none⟩) acc.length c3) ?_
    refine tq 1 45 (.int .i64 (k:Int)) ?_
    refine tq 2 46 (.slice (some ⟨g3,0,none⟩) acc.length c3) ?_
    refine tq 3 47 (.int .i64 (k:Int)) ?_
    refine tq 4 48 (.pointer (some ⟨g3,k*7,none⟩)) ?_
    refine tq 5 49 (.pointer (some ⟨g3,k*7+2,none⟩)) ?_
    refine tq 7 51 (.pointer (some ⟨wr.heap.size,2,none⟩)) ?_
    refine tq 8 52 (frV t.c.num (fm t.c)) ?_
    refine rd 6 (fun K hK=>?_)
    go_simp
    refine kO hK fun hH2=>?_
    clear hK K hHeld
    refine rd 9 (fun K hK=>?_)
    go_simp
    (refine rtu (HADD.out _) fun w4 hsz4 hl4 hc4 hf4 HG4=>?_;(try simp at hsz4))
    refine kO hK fun hH3=>?_
    clear hK K hH2
    refine tq 10 54 (.pointer (some ⟨g3,k*7,none⟩)) ?_
    refine tq 11 55 (.pointer (some ⟨g3,k*7+2,none⟩)) ?_
    refine rd 12 (fun K hK=>?_)
    go_simp
    refine kO hK fun hH4=>?_
    clear hK K hH3
    refine wpAnyH_done (by kernel_rfl) ?_ _
    go_wp2
    go_roundw
    case rel=>
     have hgr4:Gr wr.heap.size wr w4:=by exact gcc HG4 gzz
     have hS4:=HP1.out.gr hgr4
     have hput:=SL.put hS4 tC_len hk2 ⟨t.i,t.j,c0+t.c⟩ 2 (fracC (c0+t.c)) (by rw [HY2.out];rfl) (by simp)
     have hgw:Gr (w.heap.size+1) wr (w4.setCells g3 (k*7+2) (fracC (c0+t.c))):=Gr.sets (by omega) _ _ (hgr4.mono (by omega))
     have hmp:=(HM1.out.set hk2 (c0+t.c)).gr hgw (by omega)
     rw [HY2.out]at hmp
     refine⟨n+1,acc.set k ⟨t.i,t.j,c0+t.c⟩,by go_num,⟨by omega,?_,?_,hmp,HGL.out.gr.trans (hgw.mono (by omega)),Nat.le_trans (by omega:w.heap.size+1≤wr.heap.size) hgw.size⟩⟩
     ·rw [List.take_succ_eq_append_getElem hlt,List.foldl_append,←HGL.out.acc_,HTN.out,←HA2.out];rfl
     ·exact hput
    case measure=>simp [intOf];omega
  ·obtain rfl:n=l.length:=by omega
   have hacc:acc=gather l:=by rw [HGL.out.acc_,List.take_length];rfl
   have hp1:=HGL.out.p_
   have hsz:=HGL.out.sz
   have hT:acc.length<4611686018427387904:=by
    have h1:=tot_fold l []
    have h4:=tot_len acc
    have h5:=HT.out.1
    rw [show l.foldl addT []=acc from hacc.symm]at h1
    simp only [tot]at h1
    omega
   have hane:acc≠ []:=by
    rw [hacc];exact gather_ne HNE.out
   obtain ⟨g3,c3,rfl,hgB,hcap3,hcm3,hsh3,hR3⟩:=hp1.block hane
   have HP1:=Lh hp1
   have HA:=Lh hacc
   clear hp1 hacc hgr
   go_wp2_with fail
   refine(del_Term acc w.heap.size g3 c3 wr (HP1.out.mono (by omega)) (by omega) zero_tells).mono ?_
   rintro e w2 ⟨v2,rfl,hS2,hg2⟩
   have hsz2:=hg2.size
   have hG2:Gr w.heap.size w w2:=HGL.out.gr.trans hg2
   have HG2:=Lh hG2
   have hkp:kept acc=acc.filter fun t=> !decide (t.c=0):=rfl
   rw [←hkp]at hS2
   rcases hS2 with⟨rfl,hnil⟩|⟨g5,c5,rfl,h51,h52,h53,h54,h55⟩
   ·have HN:=Lh hnil
    clear hnil hG2 hg2 hkp
    go_wp2_with fail
    refine(sort_Term_nil _ _).mono ?_
    rintro e w3 ⟨rfl,hg3⟩
    have HG3:=Lh hg3
    clear hg3
    go_wp2
    go_ret
    refine⟨_,rfl,?_,HG2.out.trans (HG3.out.mono (by omega))⟩
    unfold gat
    rw [←HA.out,HN.out]
    exact SL.nil
   ·have hl5:(kept acc).length<4611686018427387904:=by
     have:=List.length_filter_le (fun t:T=> !decide (t.c=0)) acc
     unfold kept;omega
    have HS:=Lh (show PL w2 w.heap.size (.slice (some ⟨g5,0,none⟩) (kept acc).length c5) (kept acc)from .inr ⟨g5,c5,rfl,h51,h52,h53,h54,h55⟩)
    clear hG2 hg2 hkp h54 h55
    go_wp2_with fail
    refine(sort_Term (kept acc) w.heap.size g5 c5 w2 HS.out (by omega) hl5 order_tells).mono ?_
    rintro e w3 ⟨rfl,l2,hperm,hsort,hS3,hg3⟩
    have HG3:=Lh (And.intro hperm (And.intro hsort (And.intro hS3 hg3)))
    clear hperm hsort hS3 hg3
    go_wp2
    go_ret
    obtain ⟨hperm,hsort,hS3,hg3⟩:=HG3.out
    refine⟨_,rfl,?_,HG2.out.trans hg3⟩
    have hac:=HA.out
    have hok2:∀x∈l2,x.ok:=fun x hx=>by
     have h1:=hperm.mem_iff.1 hx
     unfold kept at h1
     rw [List.mem_filter,hac]at h1
     rcases Gus.fold_mem l [] h1.1 with⟨y,hy,_⟩|⟨y,hy,h2⟩
     ·simp at hy
     ·have:=HOK.out y hy
      unfold T.ok at *
      omega
    have hap:Apart l2:=apart_perm hperm.symm (apart_kept (hac ▸ apart_gather l))
    have hsrt:Sorted l2:=(hsort.and hap).imp_of_mem fun {a b} ha hb h=>ltT_total (fun e=>h.2 ⟨e.1.symm,e.2.symm⟩) (fun e=>by have h3:=(ordW_ok (hok2 b hb) (hok2 a ha)).2 e;have h4:=h.1;omega)
    rw [←gat_of_sorted hsrt (hac ▸ hperm)]
    rw [show(kept acc).length=l2.length from hperm.length_eq.symm]at hS3
    rw [show(kept acc).length=l2.length from hperm.length_eq.symm]
    exact hS3
end Go.Proofs.YtfgmdhjmgdccdaaGreat
namespace Go.Proofs.YtfgmdhjmgdccdaaGreat
open Go.RowKit Gus Go.Maps
set_option maxRecDepth 20000 in
set_option maxHeartbeats 4000000 in
theorem index_Term_nil (fv:Value) (w:World):Calls Tryz.prog 127 #[.slice none 0 0,fv] w (Ret w (.int .i64 (-1))):=by
 go_enter Tryz.func127,Tryz.ntmps127
 go_wp2
 refine wp_loop_rounds 1 ?_
 rw [rounds_succ]
 go_wp2
 go_ret
 exact⟨rfl,Gr.refl _ _⟩
set_option maxRecDepth 20000 in
set_option maxHeartbeats 4000000 in
theorem del_Term_nil (fv:Value) (w:World):Calls Tryz.prog 86 #[.slice none 0 0,fv] w (Ret w (.slice none 0 0)):=by
 have hI:=Lh (index_Term_nil fv)
 go_enter Tryz.func86,Tryz.ntmps86
 go_wp2_with fail
 (refine rtu (hI.out _) fun w1 hsz1 hl1 hc1 hf1 HG1=>?_;(try simp at hsz1))
 go_wp2
 go_ret
 exact⟨rfl,HG1.out⟩
set_option maxRecDepth 20000 in
set_option maxHeartbeats 4000000 in
theorem gathered_none (a:Option Addr) (cap:Nat) (w:World):Calls Tryz.prog 42 #[.slice a 0 cap] w (Ret w (.slice none 0 0)):=by
 have hmm:= @run_makeMap Tryz.prog
 have hD:=Lh (del_Term_nil (.func (.func 87) #[] #[]))
 have hS:=Lh (sort_Term_nil (.func (.func 90) #[] #[]))
 go_enter Tryz.func42,Tryz.ntmps42
 go_wp2
 refine wp_loop_rounds 1 ?_
 rw [rounds_succ]
 go_wp2_with fail
 (refine rtu (hD.out _) fun w1 hsz1 hl1 hc1 hf1 HG1=>?_;(try simp at hsz1))
 go_wp2_with fail
 (refine rtu (hS.out _) fun w2 hsz2 hl2 hc2 hf2 HG2=>?_;(try simp at hsz2))
 go_wp2
 go_ret
 exact⟨rfl,by exact gcc HG2 (gcc HG1 gzz)⟩
def RetP (w:World) (l:List T) (e:Ending) (w':World):Prop:= ∃v,e= .returned v∧PL w' w.heap.size v l∧Gr w.heap.size w w'
theorem po_gathered (l:List T) (v:Value) (w:World) (hS:PL w 0 v l) (hok:∀t∈l,t.ok) (ht:tot l≤100000000000):Calls Tryz.prog 42 #[v] w (RetP w (gat l)):=by
 by_cases hne:l= []
 ·subst hne
  obtain ⟨a,cap,rfl⟩:=hS.at
  exact(gathered_none a cap w).mono fun _ _ ⟨h1,h2⟩=>⟨_,h1,SL.nil,h2⟩
 ·obtain ⟨g,cap,rfl,_⟩:=hS.block hne
  exact gathered_walk l g cap w hS hne hok ht
set_option maxRecDepth 20000 in
set_option maxHeartbeats 4000000 in
theorem po_Of (l:List T) (v:Value) (w:World) (hS:PL w 0 v l) (hok:∀t∈l,t.ok) (ht:tot l≤100000000000):
  Calls Tryz.prog 53 #[v] w (fun e w'=> ∃v',e= .returned (.tuple #[v',.int .i64 0])∧PL w' w.heap.size v' (gat l)∧Gr w.heap.size w w'):=by
 obtain ⟨a,cap,rfl⟩:=hS.at
 have hl:=hS.len
 have hl2:(l.length:Int)≤9223372036854775807:=by simp only [maxLen]at hl;omega
 have HS:=Lh hS
 have HOK:=Lh hok
 have HT:=Lh ht
 clear hS hok ht hl
 go_enter Tryz.func53,Tryz.ntmps53
 go_wp2
 go_loopw [9] (fun s wr=> ∃n:Nat,s= .int .i64 n∧n≤l.length∧Gr w.heap.size w wr) (fun s _=>l.length - (intOf s).toNat)
 case atStart=>exact⟨0,rfl,Nat.zero_le _,Gr.refl _ _⟩
 case round=>
  obtain ⟨n,rfl,hn,hgr⟩:=hrel
  by_cases hlt:n<l.length
  ·obtain ⟨t,ht⟩:∃t,l[n]=t:=⟨_,rfl⟩
   obtain ⟨g,cap',e1,_,_,_,hsh,hR⟩:=(HS.out.gr hgr).block (by intro e;rw [e]at hlt;simp at hlt)
   injection e1 with e1 _ e2
   subst e1 e2
   obtain ⟨v0,v1,v2,v3,v4,v5,v6⟩:=hR.term hlt ht
   have hC:=Lh (po_may t (HOK.out t (ht ▸ List.getElem_mem hlt)))
   have hglt:=hsh.lt
   have HG:=Lh hgr
   clear hgr hR hsh ht
   go_wp2_with (((go_at_call 96;refine(hC.out _).mono ?_;rintro e w1 ⟨rfl,hg1⟩;(try (with_reducible replace hg1:=Gr.of_drew hg1));have hsz1:=hg1.size;(try simp at hsz1);have hy1_0:g<w1.heap.size:=(by omega);obtain ⟨hc1,hf1⟩:=hg1.cells;have HG1:=Lh hg1;clear hg1)))
   go_roundw
   case rel=>exact⟨n+1,by go_num,by omega,HG.out.trans (by have:=HG.out.size;exact gcc HG1 gzz)⟩
   case measure=>simp [intOf];omega
  ·obtain rfl:n=l.length:=by omega
   have hS2:=HS.out.gr hgr
   have HG:=Lh hgr
   have hC:=Lh (po_gathered l _ wr hS2 HOK.out HT.out)
   clear hgr hS2
   go_wp2_with fail
   refine hC.out.mono ?_
   rintro e w2 ⟨v2,rfl,hS3,hg3⟩
   have HS3:=Lh hS3
   have HG3:=Lh hg3
   clear hS3 hg3
   go_wp2
   have hsz:=HG.out.size
   exact bodyPost_ret (v:= .tuple #[v2,.int .i64 0]) (by simp [results,Tryz.results53,go_sem]) rfl ⟨_,rfl,HS3.out.mono hsz,HG.out.trans (HG3.out.mono hsz)⟩
set_option maxRecDepth 20000 in
set_option maxHeartbeats 4000000 in
theorem po_brought (l:List T) (v:Value) (w:World) (hS:PL w 0 v l) (hok:∀t∈l,t.ok) (ht:tot l≤100000000000):Calls Tryz.prog 43 #[v] w (RetP w (gat l)):=by
 have hC:=Lh (po_Of l v w hS hok ht)
 clear hS hok ht
 go_enter Tryz.func43,Tryz.ntmps43
 go_wp2_with fail
 refine hC.out.mono ?_
 rintro e w2 ⟨v2,rfl,hS3,hg3⟩
 have HS3:=Lh hS3
 have HG3:=Lh hg3
 clear hS3 hg3
 go_wp2
 go_ret
 exact⟨_,rfl,HS3.out,HG3.out⟩
def constT (c:Rat):List T:=if c=0 then []else [⟨0,0,c⟩]
theorem gat_const (c:Rat):gat [⟨0,0,c⟩]=constT c:=by
 unfold gat gather constT
 simp only [List.foldl_cons,List.foldl_nil,addT,Rat.zero_add]
 by_cases h:c=0
 ·subst h;rfl
 ·rw [if_neg h];simp [kept,sortT,insT,h]
set_option maxRecDepth 20000 in
set_option maxHeartbeats 4000000 in
theorem po_Const (c:Rat) (w:World) (hc:hw c≤10000000000):Calls Tryz.prog 19 #[fracV c] w (RetP w (constT c)):=by
 have hC:=Lh (fun (v:Value) (w:World) (hS:PL w 0 v [⟨0,0,c⟩])=>gat_const c ▸ po_gathered [⟨0,0,c⟩] v w hS (by intro t ht;simp at ht;subst ht;exact Nat.zero_le _) (by simp only [tot];omega))
 generalize constT c=r at *
 clear hc
 go_enter Tryz.func19,Tryz.ntmps19
 go_wp2_with fail
 refine(hC.out _ _ (SL.new' tC_len _ rfl (by simp) (Nat.zero_le _) (by simp [maxLen]) rfl)).mono ?_
 rintro e w2 ⟨v2,rfl,hS3,hg3⟩
 have HS3:=Lh hS3
 have HG3:=Lh hg3
 have hsz:=hg3.size
 (try simp at hsz)
 clear hS3 hg3
 go_wp2
 go_ret
 exact⟨_,rfl,HS3.out.mono (by simp;omega),by exact gcc HG3 gzz⟩
section
variable {P:Program} (w:World) {ops:Array Oper} {rest:List Oper} {o:Oper} {a:Act} {Q:Exit→Act→World→Prop}
theorem wpList_app0 (hg:o.guard=none) (s x:Operand) (ts:TypeId) (hop:o.op= .call {callee:= .builtin .append,args:= #[s,x],argTypes:= #[ts,ts]}) (e:TypeId) (i:TypeInfo) (ht:P.underlying ts=some (.slice e)) (hi:P.info? e=some i)
  (b:Option Addr) (n c:Nat) (hs:a.eval s= .slice b n c) (hc:n≤c) (hx:a.eval x= .slice none 0 0) (h:wpList P ops Q rest (a.put o.dst (.slice b n c)) w):wpList P ops Q (o :: rest) a w:=by
 refine wpList_plain hg fun K hK=>?_
 have hrun:(Builtin.append_ #[ts,ts] o.type #[.slice b n c,.slice none 0 0]).run P w= .ok (.slice b n c) w:=by
  cases b<;>simp [Builtin.append_,run_underlying ht,sizeOf,typeInfo,hi,Builtin.lenOf,Builtin.firstCells,loadCells,loadCellsFrom,storeCells,hc]
 unfold Oper.wp execOp
 simp only [hop,resolve,invoke,builtin,Sem.run_bind,Sem.run_pure,Result.andThen_ok,List.map_toArray,List.map_cons,List.map_nil,hs,hx,hrun]
 exact hK _ _ h
end
set_option maxRecDepth 20000 in
set_option maxHeartbeats 4000000 in
theorem po_Add (l m:List T) (v u:Value) (w:World) (hS:PL w 0 v l) (hU:PL w 0 u m) (hok:∀t∈l,t.ok) (hok2:∀t∈m,t.ok) (ht:tot l+tot m≤100000000000):Calls Tryz.prog 13 #[v,u] w (RetP w (gat (gat l++gat m))):=by
 have hB1:=Lh (po_brought l v w hS hok (by omega))
 have HU:=Lh hU
 have HOK:=Lh (And.intro hok (And.intro hok2 ht))
 clear hS hU hok hok2 ht
 go_enter Tryz.func13,Tryz.ntmps13
 go_wp2_with fail
 refine hB1.out.mono ?_
 rintro e w2 ⟨v2,rfl,hS2,hg2⟩
 have HB2:=Lh (po_brought m u w2 (HU.out.gr hg2) HOK.out.2.1 (by have:=HOK.out.2.2;omega))
 have HS2:=Lh hS2
 have HG2:=Lh hg2
 have hsz2:=hg2.size
 clear hS2 hg2
 go_wp2_with fail
 refine HB2.out.mono ?_
 rintro e w3 ⟨v3,rfl,hS3,hg3⟩
 have HS3:=Lh hS3
 have HG3:=Lh hg3
 have hsz3:=hg3.size
 have HT3:=Lh (HS2.out.gr hg3)
 clear hg3
 obtain ⟨i0,hi,hz0,hz1,hz2⟩:=info_parts info_T
 have HI:=Lh (And.intro hi (And.intro hz0 (And.intro hz1 hz2)))
 clear hi hz0 hz1 hz2
 have hlen:(gat l).length+(gat m).length≤100000000000:=by
  have h1:=tot_len (gat l);have h2:=tot_len (gat m);have h3:=tot_gat l;have h4:=tot_gat m;have h5:=HOK.out.2.2
  omega
 have hokA:∀t∈gat l++gat m,t.ok:=fun t ht=>by
  rcases List.mem_append.1 ht with h|h
  ·exact(nf_gat HOK.out.1).ok t h
  ·exact(nf_gat HOK.out.2.1).ok t h
 have htA:tot (gat l++gat m)≤100000000000:=by
  rw [tot_append]
  have h3:=tot_gat l;have h4:=tot_gat m;have h5:=HOK.out.2.2
  omega
 have HA:=Lh (And.intro hokA htA)
 clear hokA htA
 generalize gat l=gl at *
 generalize gat m=gm at *
 dsimp only
 rcases hS3 with⟨rfl,hnil⟩|⟨g5,c5,rfl,h51,h52,h53,h54,h55⟩
 ·obtain ⟨b,n,rfl⟩:=HT3.out.at
  have hcap:gl.length≤n:=by
   rcases HT3.out with⟨h,_⟩|⟨g,cap,h,_,h2,_⟩
   ·injection h with _ h2 _;omega
   ·injection h with _ _ h3;omega
  have HN:=Lh hnil
  clear hnil
  have hP:=Lh (po_gathered gl (.slice b gl.length n) w3 (HT3.out.mono (Nat.zero_le _)) (fun t ht=>HA.out.1 t (List.mem_append_left _ ht)) (by have:=HA.out.2;rw [tot_append]at this;omega))
  go_wp2_with (first|(at_builtin;refine wpList_app0 _ rfl _ _ 46 rfl 111 i0 Tryz.underlying46 HI.out.1 b gl.length n rfl hcap rfl ?_)|(go_at_call 42;refine hP.out.mono ?_;rintro e w4 ⟨v4,rfl,hS4,hg4⟩;have HS4:=Lh (And.intro hS4 hg4);clear hS4 hg4))
  go_ret
  refine⟨_,rfl,?_,?_⟩
  ·rw [HN.out,List.append_nil]
   exact HS4.out.1.mono (by omega)
  ·exact(HG2.out.trans (HG3.out.mono hsz2)).trans (HS4.out.2.mono (by omega))
 ·have hlt5:=h54.lt
  have HR5:=Lh h55
  clear h54 h55
  go_wp2_with (at_builtin;refine wpList_appS _ rfl _ _ 46 rfl w.heap.size i0 _ 72 Tryz.underlying46 HI.out.1 HI.out.2.1 HI.out.2.2.1 HI.out.2.2.2 rfl (by decide) tC_len tC_one _ gl rfl HT3.out g5 c5 gm gm.length rfl rfl HR5.out (by unfold maxLen;omega) (by omega) (by omega) ?_;intro v4 w4 hS4 hkp4 _)
  have hgr4:Gr w.heap.size w3 w4:=hkp4.gr (fun b e=>HT3.out.own_ge e) (by omega)
  have hsz4:=hgr4.size
  have hP:=Lh (po_gathered _ v4 w4 (hS4.mono (Nat.zero_le _)) HA.out.1 HA.out.2)
  have HG4:=Lh hgr4
  clear hS4 hkp4 hgr4
  go_wp2_with (go_at_call 42;refine hP.out.mono ?_;rintro e w5 ⟨v5,rfl,hS5,hg5⟩;have HS5:=Lh (And.intro hS5 hg5);clear hS5 hg5)
  go_ret
  refine⟨_,rfl,?_,?_⟩
  ·exact HS5.out.1.mono (by omega)
  ·exact((HG2.out.trans (HG3.out.mono hsz2)).trans HG4.out).trans (HS5.out.2.mono (by omega))
end Go.Proofs.YtfgmdhjmgdccdaaGreat
