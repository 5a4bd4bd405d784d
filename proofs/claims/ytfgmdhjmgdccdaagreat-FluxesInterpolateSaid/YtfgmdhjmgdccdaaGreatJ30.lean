/-
  Part 30 of the proof: PolM PolN PolO.
-/
import Derived.Test.YtfgmdhjmgdccdaaGreatJ27
import Derived.Test.YtfgmdhjmgdccdaaGreatJ29
set_option linter.unusedSimpArgs false
set_option linter.unusedVariables false
set_option maxHeartbeats 8000000
namespace Go.Proofs.YtfgmdhjmgdccdaaGreat
open Go.RowKit Gus Go.Maps
theorem VB.seven {w:World} {g:Nat} {a b c d e f h:Value} (hv:VB w g [a,b,c,d,e,f,h]):w.cell? ⟨g,0,none⟩=some a∧w.cell? ⟨g,1,none⟩=some b∧w.cell? ⟨g,2,none⟩=some c∧w.cell? ⟨g,3,none⟩=some d∧w.cell? ⟨g,4,none⟩=some e∧w.cell? ⟨g,5,none⟩=some f∧w.cell? ⟨g,6,none⟩=some h:=⟨hv.c 0 _ rfl,hv.c 1 _ rfl,hv.c 2 _ rfl,hv.c 3 _ rfl,hv.c 4 _ rfl,hv.c 5 _ rfl,hv.c 6 _ rfl⟩
set_option maxRecDepth 20000 in
theorem po_Mul (a b:List T) (v u:Value) (w:World) (hS:PL w 0 v a) (hU:PL w 0 u b) (hok:∀t∈a,t.ok) (hok2:∀t∈b,t.ok) (hd:∀s∈gat a,∀t∈gat b,s.i+s.j+(t.i+t.j)≤12) (h1:tot a≤100000) (h2:tot b≤100000):
  Calls Tryz.prog 103 #[v,u] w (fun e w'=> ∃v',e= .returned (.tuple #[v',.int .i64 0])∧PL w' w.heap.size v' (mulL a b)∧Gr w.heap.size w w'):=by
 have hB1:=Lh (po_brought a v w hS hok (by omega))
 have hB2:=Lh (fun W (hW:Gr w.heap.size w W)=>po_brought b u W (hU.gr hW) hok2 (by omega))
 have t1:=tot_gat a
 have t2:=tot_gat b
 have hpt:=tot_prods (gat b) (gat a)
 have hpo:=prods_ok hd
 have hpt2:tot (prods (gat a) (gat b))≤10000000000:=Nat.le_trans hpt (Nat.le_trans (Nat.mul_le_mul (Nat.le_trans t1 h1) (Nat.le_trans t2 h2)) (by decide))
 have hnx:gat (gat a)=gat a:=gat_nf (nf_gat hok)
 have hny:gat (gat b)=gat b:=gat_nf (nf_gat hok2)
 have hox:∀t∈gat a,t.ok:=(nf_gat hok).ok
 have hoy:∀t∈gat b,t.ok:=(nf_gat hok2).ok
 unfold mulL
 generalize gat a=x at *
 generalize gat b=y at *
 have l1:=tot_len x
 have l2:=tot_len y
 have hpl:=prods_len x y
 have hpl2:(prods x y).length≤10000000000:=by rw [hpl];exact Nat.le_trans (Nat.mul_le_mul (show x.length≤100000 by omega) (show y.length≤100000 by omega)) (by decide)
 have HP:=Lh (And.intro hpo (And.intro hpt2 hpl2))
 have HD:=Lh hd
 have HN:=Lh (And.intro (And.intro hnx hny) (And.intro hox hoy))
 have HTT:=Lh (And.intro t1 t2)
 obtain ⟨i0,hi,hz0,hz1,hz2⟩:=info_parts info_T
 have HI:=Lh (And.intro hi (And.intro hz0 (And.intro hz1 hz2)))
 clear hS hU hok hok2 hd hpt hpt2 hpo hpl hpl2 hnx hny hox hoy hi hz0 hz1 hz2
 go_enter Tryz.func103,Tryz.ntmps103
 go_wp2_with fail
 refine hB1.out.mono ?_
 rintro e w1 ⟨v1,rfl,hS1,hg1⟩
 have HG1:=Lh hg1
 have HS1:=Lh hS1
 have hsz1:=hg1.size
 clear hg1 hS1
 go_wp2_with fail
 refine(hB2.out _ HG1.out).mono ?_
 rintro e w2 ⟨v2,rfl,hS2,hg2⟩
 have HG2:=Lh hg2
 have HS2:=Lh hS2
 have hsz2:=hg2.size
 clear hg2 hS2 hB1 hB2
 obtain ⟨ax,cx,rfl⟩:=HS1.out.at
 obtain ⟨ay,cy,rfl⟩:=HS2.out.at
 have HX:=Lh (show PL w2 0 (.slice ax x.length cx) x from(HS1.out.gr HG2.out).mono (Nat.zero_le _))
 have HY:=Lh (show PL w2 0 (.slice ay y.length cy) y from HS2.out.mono (Nat.zero_le _))
 have HG:=Lh (HG1.out.trans (HG2.out.mono hsz1))
 go_upto_region 2 with fail
 go_cut [32] (fun s wx=>s= .bool false∧Gr w2.heap.size w2 wx)
 case first=>
  by_cases hx0:x= []
  ·have q1:¬0<x.length:=by rw [hx0];simp
   clear hx0
   go_wp2_with fail
   go_meet
   exact⟨rfl,by exact gzz⟩
  ·have q1:0<x.length:=List.length_pos_iff.2 hx0
   by_cases hy0:y= []
   ·have q2:¬0<y.length:=by rw [hy0];simp
    clear hx0 hy0
    go_wp2_with fail
    go_meet
    exact⟨rfl,by exact gzz⟩
   ·have q2:0<y.length:=List.length_pos_iff.2 hy0
    obtain ⟨s,hs,es⟩:=degL_le hx0
    obtain ⟨t,ht,et⟩:=degL_le hy0
    have hst:=HD.out s hs t ht
    have HD1:=Lh (show ∀W,Gr w2.heap.size w2 W→Calls Tryz.prog 147 #[.slice ax x.length cx] W (Ret W (.int .i64 ((s.i+s.j:Nat):Int)))from fun W hW=>by have h:=po_Degree x _ W (HX.out.gr hW) HN.out.2.1 (by have:=HTT.out.1;omega);rw [HN.out.1.1,es]at h;exact h)
    have HD2:=Lh (show ∀W,Gr w2.heap.size w2 W→Calls Tryz.prog 147 #[.slice ay y.length cy] W (Ret W (.int .i64 ((t.i+t.j:Nat):Int)))from fun W hW=>by have h:=po_Degree y _ W (HY.out.gr hW) HN.out.2.2 (by have:=HTT.out.2;omega);rw [HN.out.1.2,et]at h;exact h)
    obtain ⟨ds,hds⟩:∃q,s.i+s.j=q:=⟨_,rfl⟩
    obtain ⟨dt,hdt⟩:∃q,t.i+t.j=q:=⟨_,rfl⟩
    rw [hds]at HD1 hst
    rw [hdt]at HD2 hst
    obtain ⟨dd,hdd⟩:∃q,ds+dt=q:=⟨_,rfl⟩
    have z1:IntKind.i64.wrap ((ds:Int)+(dt:Int))=(dd:Int):=by rw [wrap64_id (by omega) (by omega)];omega
    have z2:¬(12:Int)<(dd:Int):=by omega
    clear hdd hst
    clear hs ht es et hds hdt hx0 hy0
    go_wp2_with fail
    (refine rtt (HD1.out _ (by exact gzz)) fun w3 hsz3 hc3 hf3 HG3=>?_;(try simp at hsz3))
    go_wp2_with fail
    (refine rtt (HD2.out _ (by exact gcc HG3 gzz)) fun w4 hsz4 hc4 hf4 HG4=>?_;(try simp at hsz4))
    go_wp2_with fail
    go_meet
    exact⟨by simp;omega,by exact gcc HG4 (gcc HG3 gzz)⟩
 case rest=>
  obtain ⟨wb,hwb⟩:∃q,q=wc:=⟨_,rfl⟩
  subst hwb
  obtain ⟨rfl,hgb⟩:=hcut
  have hszb:=hgb.size
  have HXB:=Lh (HX.out.gr hgb)
  have HYB:=Lh (HY.out.gr hgb)
  have HGB:=Lh (HG.out.trans (hgb.mono (by omega)))
  clear hgb HX HY HG HS1 HS2 HG1 HG2
  go_wp2
  go_loopw [8,35] (fun p s wr=> ∃n:Nat,s= .int .i64 n∧n≤x.length∧Hid (PL wr wb.heap.size p (prods (x.take n) y))∧Hid (Gr wb.heap.size wb wr)) (fun _ s _=>x.length - (intOf s).toNat)
  case atStart=>exact⟨0,rfl,Nat.zero_le _,Lh SL.nil,Lh (Gr.refl _ _)⟩
  case round=>
   obtain ⟨n,rfl,hn,HA,HQ⟩:=hrel
   have hszr:=HQ.out.size
   by_cases hlt:n<x.length
   ·obtain ⟨s,hs⟩:∃s,x[n]=s:=⟨_,rfl⟩
    obtain ⟨g,cap',e1,_,_,_,hsh,hR⟩:=(HXB.out.gr HQ.out).block (by intro e;rw [e]at hlt;simp at hlt)
    injection e1 with e1 e3 e2
    clear e3
    subst e1 e2
    obtain ⟨v0,v1,v2,v3,v4,v5,v6⟩:=hR.term hlt hs
    have hglt:=hsh.lt
    have hsm:s∈x:=hs ▸ List.getElem_mem hlt
    have HDB:=HD
    have hnx:=Lh (prods_succ (y:=y) hlt hs)
    have hpl:=HP.out.2.2
    have hlen9:(prods (x.take n) y).length+y.length≤10000000000:=by
     have e:=congrArg List.length hnx.out
     have e2:(prods (x.take (n+1)) y).length≤(prods x y).length:=by rw [prods_len,prods_len,List.length_take];exact Nat.mul_le_mul (Nat.min_le_right _ _) (Nat.le_refl _)
     rw [List.length_append,List.length_map]at e
     omega
    obtain ⟨A,hA⟩:∃A,prods (x.take n) y=A:=⟨_,rfl⟩
    rw [hA]at HA hnx hlen9
    replace hA:=Lh hA
    clear hR hsh hs hpl
    obtain ⟨pa,pn,pc,rfl⟩:∃pa pn pc,u8= .slice pa pn pc:=by
     obtain ⟨a,c,e⟩:=HA.out.at
     exact⟨a,_,c,e⟩
    go_wp2
    have HSB:=Lh (show VB (wr.alloc (.cells #[.int .i64 (s.i:Int),.int .i64 (s.j:Int),vA s.c,vB s.c,vC s.c,vD s.c,vE s.c] 111)) wr.heap.size (tC s)from by exact vbb)
    have HA0:=Lh (show PL (wr.alloc (.cells #[.int .i64 (s.i:Int),.int .i64 (s.j:Int),vA s.c,vB s.c,vC s.c,vD s.c,vE s.c] 111)) wb.heap.size (.slice pa pn pc) A from HA.out.gr (by exact gzz))
    have HO0:=Lh (show ∀g,(Value.slice pa pn pc).ownBlock=some g→g≠wr.heap.size from fun g e=>by have:=HA.out.own_lt e;omega)
    have HQ0:=Lh (show Gr wb.heap.size wb (wr.alloc (.cells #[.int .i64 (s.i:Int),.int .i64 (s.j:Int),vA s.c,vB s.c,vC s.c,vD s.c,vE s.c] 111))from by exact gcc HQ gzz)
    have hsb:wb.heap.size≤wr.heap.size:=hszr
    obtain ⟨wo,hwo⟩:∃q,q=wr:=⟨_,rfl⟩
    subst hwo
    obtain ⟨sb,hsb9⟩:∃q,wo.heap.size=q:=⟨_,rfl⟩
    rw [hsb9]at HSB HO0 hsb hglt hszr ⊢
    go_loopw [8,41] (fun p q wq=> ∃k:Nat,q= .int .i64 k∧k≤y.length∧Hid (PL wq wb.heap.size p (A++(y.take k).map (mulT s)))∧Hid (VB wq sb (tC s))∧Hid (∀g,p.ownBlock=some g→g≠sb)∧Hid (Gr wb.heap.size wb wq)) (fun _ q _=>y.length - (intOf q).toNat)
    case atStart=>exact⟨0,rfl,Nat.zero_le _,Lh (by rw [List.take_zero,List.map_nil,List.append_nil];exact HA0.out),HSB,HO0,HQ0⟩
    case round=>
     clear HA HQ v0 v1 v2 v3 v4 v5 v6 HA0 HSB HO0 HQ0
     obtain ⟨k,rfl,hk,HA,HSB,HO,HQ⟩:=hrel
     have hszk:=HQ.out.size
     have hsl:=HSB.out.lt
     by_cases hlk:k<y.length
     ·obtain ⟨t,ht⟩:∃t,y[k]=t:=⟨_,rfl⟩
      obtain ⟨g2,cap2,e1,_,_,_,hsh,hR⟩:=(HYB.out.gr HQ.out).block (by intro e;rw [e]at hlk;simp at hlk)
      injection e1 with e1 e3 e2
      clear e3
      subst e1 e2
      obtain ⟨v0,v1,v2,v3,v4,v5,v6⟩:=hR.term hlk ht
      have hg2:=hsh.lt
      have hnx2:=Lh (show A++(y.take (k+1)).map (mulT s)=(A++(y.take k).map (mulT s))++ [mulT s t]from by rw [List.take_add_one,List.getElem?_eq_getElem hlk,ht];simp)
      have hd9:=HDB.out s hsm t (ht ▸ List.getElem_mem hlk)
      have hM:=Lh (fun W=>fr_Mul s.c t.c W (by have:=tot_mem hsm;omega) (by have:=tot_mem (ht ▸ List.getElem_mem hlk:t∈y);omega))
      obtain ⟨u9,hu9⟩:∃q,mulT s t=q:=⟨_,rfl⟩
      have z1:IntKind.i64.wrap ((s.i:Int)+(t.i:Int))=(u9.i:Int):=by rw [wrap64_id (by omega) (by omega),←hu9];show _=((s.i+t.i:Nat):Int);omega
      have z2:IntKind.i64.wrap ((s.j:Int)+(t.j:Int))=(u9.j:Int):=by rw [wrap64_id (by omega) (by omega),←hu9];show _=((s.j+t.j:Nat):Int);omega
      have hc9:s.c*t.c=u9.c:=by rw [←hu9];rfl
      rw [hc9]at hM
      rw [hu9]at hnx2
      have hal:(A++(y.take k).map (mulT s)).length≤10000000000:=by rw [List.length_append,List.length_map,List.length_take];omega
      obtain ⟨A2,hA2⟩:∃q,A++(y.take k).map (mulT s)=q:=⟨_,rfl⟩
      rw [hA2]at HA hnx2 hal
      clear hA2 hu9 hc9 hR hsh ht
      obtain ⟨pa2,pn2,pc2,hp2⟩:∃pa pn pc,u8= .slice pa pn pc:=by
       obtain ⟨a,c,e⟩:=HA.out.at
       exact⟨a,_,c,e⟩
      subst hp2
      obtain ⟨s0,s1,s2,s3,s4,s5,s6⟩:=HSB.out.seven
      go_upto_region 11 with fail
      have HSBT:=Lh (show VB (wr.alloc (.cells #[.int .i64 (t.i:Int),.int .i64 (t.j:Int),vA t.c,vB t.c,vC t.c,vD t.c,vE t.c] 111)) sb (tC s)from HSB.out.alloc _)
      have HTB:=Lh (show VB (wr.alloc (.cells #[.int .i64 (t.i:Int),.int .i64 (t.j:Int),vA t.c,vB t.c,vC t.c,vD t.c,vE t.c] 111)) wr.heap.size (tC t)from by exact vbb)
      have HAT:=Lh (show PL (wr.alloc (.cells #[.int .i64 (t.i:Int),.int .i64 (t.j:Int),vA t.c,vB t.c,vC t.c,vD t.c,vE t.c] 111)) wb.heap.size (.slice pa2 pn2 pc2) A2 from HA.out.gr (by exact gzz))
      have HQT:=Lh (show Gr wb.heap.size wb (wr.alloc (.cells #[.int .i64 (t.i:Int),.int .i64 (t.j:Int),vA t.c,vB t.c,vC t.c,vD t.c,vE t.c] 111))from by exact gcc HQ gzz)
      have HOT:=Lh (show ∀g,(Value.slice pa2 pn2 pc2).ownBlock=some g→g≠sb∧g≠wr.heap.size from fun g e=>⟨HO.out g e,by have:=HA.out.own_lt e;omega⟩)
      have htb9:wb.heap.size≤wr.heap.size:=hszk
      have hz11:(wr.alloc (.cells #[.int .i64 (t.i:Int),.int .i64 (t.j:Int),vA t.c,vB t.c,vC t.c,vD t.c,vE t.c] 111)).heap.size=wr.heap.size+1:=by simp
      generalize (wr.alloc (.cells #[.int .i64 (t.i:Int),.int .i64 (t.j:Int),vA t.c,vB t.c,vC t.c,vD t.c,vE t.c] 111))=wt at *
      obtain ⟨tb,htb⟩:∃q,wr.heap.size=q:=⟨_,rfl⟩
      rw [htb]at HTB HOT htb9 hz11 hsl ⊢
      have hstb:sb<wt.heap.size:=by omega
      have httb:tb<wt.heap.size:=by omega
      have hnst:sb≠tb:=by omega
      clear s0 s1 s2 s3 s4 s5 s6 v0 v1 v2 v3 v4 v5 v6 HA HSB HO HQ hg2
      obtain ⟨s0,s1,s2,s3,s4,s5,s6⟩:=HSBT.out.seven
      obtain ⟨v0,v1,v2,v3,v4,v5,v6⟩:=HTB.out.seven
      refine wp_region_held_drew (S:=(fun w'=>w'.cell? ⟨sb,0,none⟩=some (.int .i64 (s.i:Int))∧w'.cell? ⟨sb,1,none⟩=some (.int .i64 (s.j:Int))∧w'.cell? ⟨sb,2,none⟩=some (vA s.c)∧w'.cell? ⟨sb,3,none⟩=some (vB s.c)∧w'.cell? ⟨sb,4,none⟩=some (vC s.c)∧w'.cell? ⟨sb,5,none⟩=some (vD s.c)∧w'.cell? ⟨sb,6,none⟩=some (vE s.c)∧w'.cell? ⟨tb,0,none⟩=some (.int .i64 (t.i:Int))∧w'.cell? ⟨tb,1,none⟩=some (.int .i64 (t.j:Int))∧w'.cell? ⟨tb,2,none⟩=some (vA t.c)∧w'.cell? ⟨tb,3,none⟩=some (vB t.c)∧w'.cell? ⟨tb,4,none⟩=some (vC t.c)∧w'.cell? ⟨tb,5,none⟩=some (vD t.c)∧w'.cell? ⟨tb,6,none⟩=some (vE t.c))) (by kernel_rfl) ?_ (fun hHeld=>?_)
      ·simp [go_sem, *]
      refine tq 0 45 (.slice pa2 pn2 pc2) ?_
      refine tq 1 46 (.pointer (some ⟨sb,0,none⟩)) ?_
      refine tq 2 47 (.int .i64 (s.i:Int)) ?_
      refine tq 3 48 (.pointer (some ⟨tb,0,none⟩)) ?_
      refine tq 4 49 (.int .i64 (t.i:Int)) ?_
      refine tq 5 50 (.int .i64 (u9.i:Int)) ?_
      refine tq 6 51 (.pointer (some ⟨sb,1,none⟩)) ?_
      refine tq 7 52 (.int .i64 (s.j:Int)) ?_
      refine tq 8 53 (.pointer (some ⟨tb,1,none⟩)) ?_
      refine tq 9 54 (.int .i64 (t.j:Int)) ?_
      refine tq 10 55 (.int .i64 (u9.j:Int)) ?_
      refine tq 11 56 (.pointer (some ⟨sb,2,none⟩)) ?_
      refine tq 12 57 (fracV s.c) ?_
      refine tq 13 58 (.pointer (some ⟨tb,2,none⟩)) ?_
      refine tq 14 59 (fracV t.c) ?_
      refine rd 15 (fun K hK=>?_)
      go_simp
      (refine rtt (hM.out _) fun w6 hsz6 hc6 hf6 HG6=>?_;(try simp at hsz6);have hy6_0:sb<w6.heap.size:=(by omega);have hy6_1:tb<w6.heap.size:=(by omega))
      refine kO hK fun hQ1=>?_
      clear hK K hHeld
      refine tq 16 61 (.agg #[.int .i64 (u9.i:Int),.int .i64 (u9.j:Int),vA u9.c,vB u9.c,vC u9.c,vD u9.c,vE u9.c]) ?_
      refine rd 17 (fun K hK=>?_)
      go_simp
      (try dsimp only)
      refine hK.out _ _ ?_ (fun hQ2=>?_)
      ·(first|exact trivial|((try dsimp only);simp [go_sem, *]))
      clear hK K hQ1
      try simp only [pS]
      refine rd 18 (fun K hK=>?_)
      rw [if_pos (by rfl)]
      refine wp_appS _ _ _ 45 rfl wb.heap.size i0 _ 72 Tryz.underlying45 HI.out.1 HI.out.2.1 HI.out.2.2.1 HI.out.2.2.2 rfl (by decide) tC_len tC_one (.slice pa2 pn2 pc2) A2 rfl (HAT.out.gr (by exact gcc HG6 gzz)) w6.heap.size 1 [u9] 1 rfl rfl (by first|exact RC.new1 rfl|exact RC.drew (RC.new1 rfl)) (by unfold maxLen;simp;omega) (by simp;omega) (by simp;omega) ?_
      intro v8 w8 hS8 hkp8 hown8
      have hg6z:=HG6.out.size
      have HGB:=Lh (show Kp wt w8 (Value.slice pa2 pn2 pc2).ownBlock from((show Gr wt.heap.size wt _ from by exact gcc HG6 gzz).kp _).trans hkp8)
      have HS8:=Lh hS8
      have HOW8:=Lh (show v8.ownBlock=(Value.slice pa2 pn2 pc2).ownBlock∨∃k,v8.ownBlock=some k∧wt.heap.size≤k from hown8.imp id (fun e=>⟨_,e,by simp;omega⟩))
      clear hS8 hkp8 hown8
      have HSB8:=Lh (HSBT.out.kp HGB.out (fun e=>(HOT.out sb e.symm).1 rfl))
      have HTB8:=Lh (HTB.out.kp HGB.out (fun e=>(HOT.out tb e.symm).2 rfl))
      refine hK.out _ _ ?_ (fun hQ9=>?_)
      ·obtain ⟨p0,p1,p2,p3,p4,p5,p6⟩:=HSB8.out.seven
       obtain ⟨q0,q1,q2,q3,q4,q5,q6⟩:=HTB8.out.seven
       exact⟨p0,p1,p2,p3,p4,p5,p6,q0,q1,q2,q3,q4,q5,q6⟩
      clear hK K hQ2 hc6 hf6
      try simp only [pS]
      refine tq 19 8 (v8) ?_
      refine wpAnyH_done (by kernel_rfl) ?_ _
      clear s0 s1 s2 s3 s4 s5 s6 v0 v1 v2 v3 v4 v5 v6 z1 z2
      go_wp2
      go_roundw
      case rel=>
       refine⟨k+1,by go_num,by omega,Lh (by rw [hnx2.out];exact HS8.out),HSB8,Lh (fun g e=>?_),Lh (HQT.out.trans (HGB.out.gr (fun b e=>HAT.out.own_ge e) (by omega)))⟩
       rcases HOW8.out with h|⟨q,h,hq⟩
       ·exact(HOT.out g (h ▸ e)).1
       ·rw [h]at e;have:=Option.some.inj e;omega
      case measure=>simp [intOf];omega
     ·have hkl:k=y.length:=by omega
      subst hkl
      go_wp2
      go_roundw
      case rel=>exact⟨n+1,by go_num,by omega,Lh (by rw [hnx.out];have h:=HA.out;rw [List.take_length]at h;exact h),HQ⟩
      case measure=>simp [intOf];omega
   ·obtain rfl:n=x.length:=by omega
    have HGA:=Lh (po_gathered (prods x y) u8 wr (by have h:=HA.out;rw [List.take_length]at h;exact h.mono (Nat.zero_le _)) HP.out.1 (by have:=HP.out.2.1;omega))
    go_wp2_with (go_at_call 42;refine HGA.out.mono ?_;rintro e w4 ⟨v4,rfl,hS4,hg4⟩;have HS4:=Lh (And.intro hS4 hg4);clear hS4 hg4)
    go_ret2
    have hz9:=HGB.out.size
    exact⟨_,rfl,HS4.out.1.mono (by omega),HGB.out.trans ((HQ.out.trans (HS4.out.2.mono hszr)).mono (by omega))⟩
end Go.Proofs.YtfgmdhjmgdccdaaGreat
namespace Go.Proofs.YtfgmdhjmgdccdaaGreat
open Go.RowKit Gus Go.Maps
theorem gat_mem {t:T} {l:List T} (h:t∈gat l):∃y∈l,t.i=y.i∧t.j=y.j:=by
 unfold gat at h
 have h1:=(sortT_perm _).mem_iff.1 h
 unfold kept at h1
 have h2:=(List.mem_filter.1 h1).1
 have h3:t∈l.foldl addT []:=h2
 rcases Gus.fold_mem (x:=t) l [] h3 with⟨y,hy,_⟩|h
 ·simp at hy
 ·exact h
theorem mulL_deg {a b:List T} {p q:Nat} (ha:∀t∈a,t.i+t.j≤p) (hb:∀t∈b,t.i+t.j≤q):∀t∈mulL a b,t.i+t.j≤p+q:=by
 intro t ht
 obtain ⟨y,hy,e1,e2⟩:=gat_mem ht
 obtain ⟨s,hs,h2⟩:=List.mem_flatMap.1 hy
 obtain ⟨u,hu,rfl⟩:=List.mem_map.1 h2
 obtain ⟨s',hs',f1,f2⟩:=gat_mem hs
 obtain ⟨u',hu',g1,g2⟩:=gat_mem hu
 have:=ha s' hs'
 have:=hb u' hu'
 have a1:(mulT s u).i=s.i+u.i:=rfl
 have a2:(mulT s u).j=s.j+u.j:=rfl
 omega
theorem constT_deg (c:Rat):∀t∈constT c,t.i+t.j≤0:=by
 intro t ht
 unfold constT at ht
 split at ht
 ·simp at ht
 ·have:t=⟨0,0,c⟩:=by simpa using ht
  rw [this]
  exact Nat.le_refl _
theorem powL_deg {x:List T} (hx:∀t∈x,t.i+t.j≤1):∀n,∀t∈powL x n,t.i+t.j≤n
 | 0=>constT_deg 1
 | n+1=>mulL_deg (powL_deg hx n) hx
set_option maxRecDepth 20000 in
theorem po_Pow (x:List T) (n:Nat) (v:Value) (w:World) (hS:PL w 0 v x) (hg:gat x=x) (hdeg:∀t∈x,t.i+t.j≤1) (hn:n≤12) (h1:tot x≤100000) (h2:∀m,m≤n→tot (powL x m)≤100000):
  Calls Tryz.prog 102 #[v,.int .i64 (n:Int)] w (fun e w'=> ∃v',e= .returned (.tuple #[v',.int .i64 0])∧PL w' w.heap.size v' (powL x n)∧Gr w.heap.size w w'):=by
 have hok:∀t∈x,t.ok:=fun t ht=>by have:=hdeg t ht;show t.i+t.j≤12;omega
 obtain ⟨d,hd,hd1,hd2⟩:∃d:Int,degL x=d∧ -1≤d∧d≤1:=by
  refine⟨_,rfl,?_⟩
  by_cases hx0:x= []
  ·subst hx0;show(-1:Int)≤ -1∧(-1:Int)≤1;omega
  ·obtain ⟨t,ht,e⟩:=degL_le hx0
   have:=hdeg t ht
   rw [e]
   omega
 have HDG:=Lh (fun W (hW:Gr w.heap.size w W)=>(show Calls Tryz.prog 147 #[v] W (Ret W (.int .i64 d))from by have h:=po_Degree x v W (hS.gr hW) hok (by omega);rw [hg,hd]at h;exact h))
 obtain ⟨q,hq⟩:∃q,(n:Int)*d=q:=⟨_,rfl⟩
 have hq1: -12≤q∧q≤12:=by
  rcases(show d= -1∨d=0∨d=1 by omega)with e|e|e<;>(rw [e]at hq;omega)
 have z1:IntKind.i64.wrap ((n:Int)*d)=q:=by rw [hq,wrap64_id (by omega) (by omega)]
 have z2:¬(12:Int)<q:=by omega
 have z3:¬(n:Int)<0:=by omega
 have z4:¬(12:Int)<(n:Int):=by omega
 have HI1:=Lh (fun W=>fr_Int 1 W (by omega) (by omega))
 have hw1:hw (1:Rat)≤10:=by decide+kernel
 have HC1:=Lh (fun W=>po_Const 1 W (by omega))
 have HMU:=Lh (fun k W (u:Value) (hk:k<n) (hW:Gr w.heap.size w W) (hU:PL W 0 u (powL x k))=>(show Calls Tryz.prog 103 #[u,v] W (fun e w'=> ∃v',e= .returned (.tuple #[v',.int .i64 0])∧PL w' W.heap.size v' (powL x (k+1))∧Gr W.heap.size W w') from
  po_Mul (powL x k) x u v W hU (hS.gr hW) (fun t ht=>by have:=powL_deg hdeg k t ht;show t.i+t.j≤12;omega) hok (fun s hs t ht=>by
   obtain ⟨s',hs',e1,e2⟩:=gat_mem hs
   obtain ⟨t',ht',f1,f2⟩:=gat_mem ht
   have:=powL_deg hdeg k s' hs'
   have:=hdeg t' ht'
   omega) (h2 k (by omega)) h1))
 clear hS hg hdeg h1 h2 hok hd hq hq1
 go_enter Tryz.func102,Tryz.ntmps102
 go_wp2_with fail
 (refine rtu (HDG.out _ (by exact gzz)) fun w1 hsz1 hl1 hc1 hf1 HG1=>?_;(try simp at hsz1))
 go_wp2_with fail
 (refine rtu (HI1.out _) fun w2 hsz2 hl2 hc2 hf2 HG2=>?_;(try simp at hsz2))
 go_wp2_with fail
 refine(HC1.out _).mono ?_
 rintro e w3 ⟨v3,rfl,hS3,hg3⟩
 have hsz3:=hg3.size
 have HS3:=Lh hS3
 have HG3:=Lh (show Gr w.heap.size w w3 from(show Gr w.heap.size w w2 from by exact gcc HG2 (gcc HG1 gzz)).trans (hg3.mono (by omega)))
 clear hS3 hg3
 go_wp2
 go_loopw [6,23] (fun p s wr=> ∃k:Nat,s= .int .i64 k∧k≤n∧Hid (PL wr w.heap.size p (powL x k))∧Hid (Gr w.heap.size w wr)) (fun _ s _=>n - (intOf s).toNat)
 case atStart=>exact⟨0,rfl,Nat.zero_le _,Lh (HS3.out.mono (by omega)),HG3⟩
 case round=>
  obtain ⟨k,rfl,hk,HP,HG⟩:=hrel
  have hszr:=HG.out.size
  by_cases hlt:k<n
  ·have q0:(k:Int)<(n:Int):=by omega
   have HMK:=Lh (HMU.out k wr u6 hlt HG.out (HP.out.mono (Nat.zero_le _)))
   go_wp2_with fail
   refine HMK.out.mono ?_
   rintro e w5 ⟨v5,rfl,hS5,hg5⟩
   have HS5:=Lh hS5
   have HG5:=Lh hg5
   clear hS5 hg5
   go_wp2
   go_roundw
   case rel=>exact⟨k+1,by go_num,by omega,Lh (HS5.out.mono hszr),Lh (HG.out.trans (HG5.out.mono hszr))⟩
   case measure=>simp [intOf];omega
  ·obtain rfl:k=n:=by omega
   go_wp2
   go_ret2
   exact⟨_,rfl,HP.out,HG.out⟩
end Go.Proofs.YtfgmdhjmgdccdaaGreat
namespace Go.Proofs.YtfgmdhjmgdccdaaGreat
open Go.RowKit Gus Go.Maps
theorem lin_ok (a b c:Rat):∀t∈ [(⟨1,0,a⟩:T),⟨0,1,b⟩,⟨0,0,c⟩],t.ok:=by
 intro t ht
 simp only [List.mem_cons,List.not_mem_nil,or_false]at ht
 rcases ht with rfl|rfl|rfl<;>exact Nat.le_of_ble_eq_true rfl
theorem linL_nf (a b c:Rat):gat (linL a b c)=linL a b c:=gat_nf (nf_gat (lin_ok a b c))
theorem tot_linL (a b c:Rat):tot (linL a b c)≤hw a+hw b+hw c+3:=by
 refine Nat.le_trans (tot_gat _) ?_
 simp only [tot]
 omega
theorem tot_mulL (a b:List T):tot (mulL a b)≤tot a*tot b:=Nat.le_trans (tot_gat _) (Nat.le_trans (tot_prods _ _) (Nat.mul_le_mul (tot_gat _) (tot_gat _)))
theorem tot_scaleL (k:Rat) (l:List T):tot (scaleL k l)≤tot l*(hw k+1):=by
 have h1:=tot_scale k (gat l)
 have h2:=tot_gat l
 have h3:=tot_len (gat l)
 have h4:(gat l).length*hw k≤tot l*hw k:=Nat.mul_le_mul (by omega) (Nat.le_refl _)
 have h5:=tot_gat ((gat l).map (T.scale k))
 rw [Nat.mul_add,Nat.mul_one]
 show tot (gat _)≤_
 omega
theorem tot_addL (a b:List T):tot (addL a b)≤tot a+tot b:=by
 have h1:=tot_gat a
 have h2:=tot_gat b
 refine Nat.le_trans (tot_gat _) ?_
 rw [tot_append]
 omega
theorem ok_gat {l:List T} (h:∀t∈l,t.ok):∀t∈gat l,t.ok:=(nf_gat h).ok
theorem mulL_ok {a b:List T} {p q:Nat} (ha:∀t∈a,t.i+t.j≤p) (hb:∀t∈b,t.i+t.j≤q) (h:p+q≤12):∀t∈mulL a b,t.ok:=fun t ht=>by have:=mulL_deg ha hb t ht;show t.i+t.j≤12;omega
theorem scaleL_ok {k:Rat} {l:List T} (h:∀t∈l,t.ok):∀t∈scaleL k l,t.ok:=ok_gat (ok_scale h)
theorem addL_ok {a b:List T} (h:∀t∈a,t.ok) (h2:∀t∈b,t.ok):∀t∈addL a b,t.ok:=ok_gat (fun t ht=>by
 rcases List.mem_append.1 ht with h'|h'
 ·exact ok_gat h t h'
 ·exact ok_gat h2 t h')
structure ShiftOk (x y:List T) (l:List T):Prop where
 dx:∀t∈x,t.i+t.j≤1
 dy:∀t∈y,t.i+t.j≤1
 ok:∀t∈l,t.ok
 px:∀t∈l,∀m,m≤t.i→tot (powL x m)≤1000
 py:∀t∈l,∀m,m≤t.j→tot (powL y m)≤1000
 hc:∀t∈l,hw t.c≤1000
 few:l.length≤40
theorem shiftA_snoc (x y l:List T) (t:T):shiftA x y (l++ [t])=addL (shiftA x y l) (scaleL t.c (mulL (powL x t.i) (powL y t.j))):=by
 unfold shiftA
 rw [List.foldl_append]
 rfl
theorem shift_step {x y l:List T} (h:ShiftOk x y l) {t:T} (ht:t∈l):(∀u∈mulL (powL x t.i) (powL y t.j),u.ok)∧tot (mulL (powL x t.i) (powL y t.j))≤1000000∧(∀u∈scaleL t.c (mulL (powL x t.i) (powL y t.j)),u.ok)∧tot (scaleL t.c (mulL (powL x t.i) (powL y t.j)))≤1001000000:=by
 have h0:t.i+t.j≤12:=h.ok t ht
 have h1:=mulL_ok (powL_deg h.dx t.i) (powL_deg h.dy t.j) h0
 have h2:tot (mulL (powL x t.i) (powL y t.j))≤1000000:=Nat.le_trans (tot_mulL _ _) (Nat.mul_le_mul (h.px t ht _ (Nat.le_refl _)) (h.py t ht _ (Nat.le_refl _)))
 refine⟨h1,h2,scaleL_ok h1,Nat.le_trans (tot_scaleL _ _) ?_⟩
 exact Nat.le_trans (Nat.mul_le_mul h2 (Nat.add_le_add_right (h.hc t ht) 1)) (by decide)
theorem shift_acc {x y l:List T} (h:ShiftOk x y l):∀n,n≤l.length→(∀u∈shiftA x y (l.take n),u.ok)∧tot (shiftA x y (l.take n))≤n*1001000000
 | 0,_=>by simp [shiftA,tot]
 | n+1,hn=>by
  obtain ⟨h1,h2⟩:=shift_acc h n (by omega)
  have hlt:n<l.length:=by omega
  have e:l.take (n+1)=l.take n++ [l[n]]:=by rw [List.take_add_one,List.getElem?_eq_getElem hlt];rfl
  obtain ⟨_,_,k1,k2⟩:=shift_step h (List.getElem_mem hlt)
  rw [e,shiftA_snoc]
  refine⟨addL_ok h1 k1,Nat.le_trans (tot_addL _ _) ?_⟩
  omega
set_option maxRecDepth 20000 in
theorem po_Shift (p:List T) (ax bx cx ay by_ cy:Rat) (v:Value) (w:World) (hS:PL w 0 v p) (hok:∀t∈p,t.ok) (h1:tot p≤100000) (hb:hw ax≤10000∧hw bx≤10000∧hw cx≤10000∧hw ay≤10000∧hw by_≤10000∧hw cy≤10000) (hsh:ShiftOk (linL ax bx cx) (linL ay by_ cy) (gat p)):
  Calls Tryz.prog 60 #[v,fracV ax,fracV bx,fracV cx,fracV ay,fracV by_,fracV cy] w (RetP w (shiftL p ax bx cx ay by_ cy)):=by
 obtain ⟨b1,b2,b3,b4,b5,b6⟩:=hb
 have HGX:=Lh (fun (W:World) (u:Value) (hU:PL W 0 u [(⟨1,0,ax⟩:T),⟨0,1,bx⟩,⟨0,0,cx⟩])=>po_gathered [(⟨1,0,ax⟩:T),⟨0,1,bx⟩,⟨0,0,cx⟩] u W hU (lin_ok _ _ _) (by simp only [tot];omega))
 have HGY:=Lh (fun (W:World) (u:Value) (hU:PL W 0 u [(⟨1,0,ay⟩:T),⟨0,1,by_⟩,⟨0,0,cy⟩])=>po_gathered [(⟨1,0,ay⟩:T),⟨0,1,by_⟩,⟨0,0,cy⟩] u W hU (lin_ok _ _ _) (by simp only [tot];omega))
 have HBR:=Lh (fun W (hW:Gr w.heap.size w W)=>po_brought p v W (hS.gr hW) hok (by omega))
 have tx:=tot_linL ax bx cx
 have ty:=tot_linL ay by_ cy
 have nx:=linL_nf ax bx cx
 have ny:=linL_nf ay by_ cy
 unfold shiftL
 rw [show gat [(⟨1,0,ax⟩:T),⟨0,1,bx⟩,⟨0,0,cx⟩]=linL ax bx cx from rfl]at HGX
 rw [show gat [(⟨1,0,ay⟩:T),⟨0,1,by_⟩,⟨0,0,cy⟩]=linL ay by_ cy from rfl]at HGY
 generalize linL ax bx cx=x at *
 generalize linL ay by_ cy=y at *
 generalize gat p=l at *
 have HSH:=Lh hsh
 replace tx:tot x≤30003:=by omega
 replace ty:tot y≤30003:=by omega
 have HTX:=Lh (And.intro tx (And.intro ty (And.intro nx ny)))
 have hfew:=hsh.few
 clear hS hok h1 hsh tx ty nx ny b1 b2 b3 b4 b5 b6
 go_enter Tryz.func60,Tryz.ntmps60
 go_wp2_with fail
 refine(HGX.out _ _ (SL.new' (l:= [(⟨1,0,ax⟩:T),⟨0,1,bx⟩,⟨0,0,cx⟩]) tC_len _ rfl (by simp) (Nat.zero_le _) (by simp [maxLen]) rfl)).mono ?_
 rintro e w1 ⟨v1,rfl,hS1,hg1⟩
 have hsz1:=hg1.size
 (try simp at hsz1)
 obtain ⟨hc1,hf1⟩:=hg1.cells
 have hz1_0:w.heap.size+1+1+1<w1.heap.size:=by omega
 have hz1_1:w.heap.size+1+1+1+1<w1.heap.size:=by omega
 have hz1_2:w.heap.size+1+1+1+1+1<w1.heap.size:=by omega
 have HG1:=Lh hg1
 have HS1:=Lh hS1
 clear hg1 hS1
 go_wp2_with fail
 refine(HGY.out _ _ (SL.new' (l:= [(⟨1,0,ay⟩:T),⟨0,1,by_⟩,⟨0,0,cy⟩]) tC_len _ rfl (by simp) (Nat.zero_le _) (by simp [maxLen]) rfl)).mono ?_
 rintro e w2 ⟨v2,rfl,hS2,hg2⟩
 have hsz2:=hg2.size
 (try simp at hsz2)
 obtain ⟨hc2,hf2⟩:=hg2.cells
 have HG2:=Lh hg2
 have HS2:=Lh hS2
 clear hg2 hS2
 clear hc1 hf1 hc2 hf2
 go_wp2_with fail
 refine(HBR.out _ (by exact gcc HG2 (gcc HG1 gzz))).mono ?_
 rintro e w3 ⟨v3,rfl,hS3,hg3⟩
 have hsz3:=hg3.size
 have HG:=Lh (show Gr w.heap.size w w3 from(show Gr w.heap.size w w2 from by exact gcc HG2 (gcc HG1 gzz)).trans (hg3.mono (by omega)))
 obtain ⟨al,cl,rfl⟩:=hS3.at
 have HL:=Lh (show PL w3 0 (.slice al l.length cl) l from hS3.mono (Nat.zero_le _))
 have HY:=Lh (show PL w3 0 v2 y from(HS2.out.gr hg3).mono (Nat.zero_le _))
 have HX:=Lh (show PL w3 0 v1 x from((HS1.out.gr (show Gr w1.heap.size w1 w2 from by exact gcc HG2 gzz)).gr hg3).mono (Nat.zero_le _))
 have hw3:w.heap.size≤w3.heap.size:=by omega
 clear hS3 hg3 HG1 HG2 HS1 HS2 HBR HGX HGY
 go_wp2
 go_loopw [17,45] (fun p s wr=> ∃n:Nat,s= .int .i64 n∧n≤l.length∧Hid (PL wr w3.heap.size p (shiftA x y (l.take n)))∧Hid (Gr w3.heap.size w3 wr)) (fun _ s _=>l.length - (intOf s).toNat)
 case atStart=>exact⟨0,rfl,Nat.zero_le _,Lh SL.nil,Lh (Gr.refl _ _)⟩
 case round=>
  obtain ⟨n,rfl,hn,HP,HQ⟩:=hrel
  have hszr:=HQ.out.size
  by_cases hlt:n<l.length
  ·obtain ⟨t,ht⟩:∃t,l[n]=t:=⟨_,rfl⟩
   have htm:t∈l:=ht ▸ List.getElem_mem hlt
   obtain ⟨g,cap',e1,_,_,_,hsh,hR⟩:=(HL.out.gr HQ.out).block (by intro e;rw [e]at hlt;simp at hlt)
   injection e1 with e1 e3 e2
   clear e3
   subst e1 e2
   obtain ⟨a0,a1,a2,a3,a4,a5,a6⟩:=hR.term hlt ht
   have hg9:=hsh.lt
   obtain ⟨m1,m2,m3,m4⟩:=shift_step HSH.out htm
   obtain ⟨k1,k2⟩:=shift_acc HSH.out n hn
   have hti:t.i≤12∧t.j≤12:=by have:t.i+t.j≤12:=HSH.out.ok t htm;omega
   have hhc:=HSH.out.hc t htm
   have HPX:=Lh (fun W (hW:Gr w3.heap.size w3 W)=>po_Pow x t.i v1 W (HX.out.gr hW) HTX.out.2.2.1 HSH.out.dx hti.1 (by have:=HTX.out.1;omega) (fun m hm=>Nat.le_trans (HSH.out.px t htm m hm) (by omega)))
   have HPY:=Lh (fun W (hW:Gr w3.heap.size w3 W)=>po_Pow y t.j v2 W (HY.out.gr hW) HTX.out.2.2.2 HSH.out.dy hti.2 (by have:=HTX.out.2.1;omega) (fun m hm=>Nat.le_trans (HSH.out.py t htm m hm) (by omega)))
   have hpx:=HSH.out.px t htm t.i (Nat.le_refl _)
   have hpy:=HSH.out.py t htm t.j (Nat.le_refl _)
   have ddx:=powL_deg HSH.out.dx t.i
   have ddy:=powL_deg HSH.out.dy t.j
   have hto:t.i+t.j≤12:=HSH.out.ok t htm
   have HMUL:=Lh (fun W u z (hU:PL W 0 u (powL x t.i)) (hZ:PL W 0 z (powL y t.j))=>po_Mul (powL x t.i) (powL y t.j) u z W hU hZ (fun q hq=>by have:=ddx q hq;show q.i+q.j≤12;omega) (fun q hq=>by have:=ddy q hq;show q.i+q.j≤12;omega) (fun s hs q hq=>by
    obtain ⟨s',hs',e1,e2⟩:=gat_mem hs
    obtain ⟨q',hq',f1,f2⟩:=gat_mem hq
    have:=ddx s' hs'
    have:=ddy q' hq'
    omega) (by omega) (by omega))
   have HSC:=Lh (fun W u (hU:PL W 0 u (mulL (powL x t.i) (powL y t.j)))=>po_Scale t.c (mulL (powL x t.i) (powL y t.j)) u W hU m1 (Nat.le_trans (Nat.mul_le_mul m2 (show hw t.c+2≤1002 by omega)) (by decide)))
   obtain ⟨S,hSe⟩:∃S,shiftA x y (l.take n)=S:=⟨_,rfl⟩
   have HAD:=Lh (fun W u z (hU:PL W 0 u S) (hZ:PL W 0 z (scaleL t.c (mulL (powL x t.i) (powL y t.j))))=>po_Add S (scaleL t.c (mulL (powL x t.i) (powL y t.j))) u z W hU hZ (by rw [←hSe];exact k1) m3 (by rw [←hSe];omega))
   have HNX:=Lh (show shiftA x y (l.take (n+1))=addL S (scaleL t.c (mulL (powL x t.i) (powL y t.j)))from by rw [List.take_add_one,List.getElem?_eq_getElem hlt,ht];show shiftA x y (l.take n++ [t])=_;rw [shiftA_snoc,hSe])
   rw [hSe]at HP
   clear hR hsh ht htm m1 m2 m3 m4 k1 k2 hSe hpx hpy ddx ddy hto hti hhc
   obtain ⟨wo,hwo⟩:∃q,q=wr:=⟨_,rfl⟩
   subst hwo
   go_wp2_with fail
   refine(HPX.out _ (by exact gcc HQ gzz)).mono ?_
   rintro e w5 ⟨v5,rfl,hS5,hg5⟩
   have hsz5:=hg5.size
   (try simp at hsz5)
   obtain ⟨hc5,hf5⟩:=hg5.cells
   have hz5_0:wo.heap.size<w5.heap.size:=by omega
   have HG5:=Lh hg5
   have HS5:=Lh hS5
   clear hg5 hS5
   go_wp2_with fail
   refine(HPY.out _ (by exact gcc HG5 (gcc HQ gzz))).mono ?_
   rintro e w6 ⟨v6,rfl,hS6,hg6⟩
   have hsz6:=hg6.size
   (try simp at hsz6)
   obtain ⟨hc6,hf6⟩:=hg6.cells
   have hz6_0:wo.heap.size<w6.heap.size:=by omega
   have HG6:=Lh hg6
   have HS6:=Lh hS6
   clear hg6 hS6
   have HS56:=Lh (show PL w6 0 v5 (powL x t.i)from(HS5.out.gr (by exact gcc HG6 gzz)).mono (Nat.zero_le _))
   go_wp2_with fail
   refine(HMUL.out _ _ _ HS56.out (HS6.out.mono (Nat.zero_le _))).mono ?_
   rintro e w7 ⟨v7,rfl,hS7,hg7⟩
   have hsz7:=hg7.size
   (try simp at hsz7)
   obtain ⟨hc7,hf7⟩:=hg7.cells
   have hz7_0:wo.heap.size<w7.heap.size:=by omega
   have HG7:=Lh hg7
   have HS7:=Lh hS7
   clear hg7 hS7
   go_wp2_with fail
   refine(HSC.out _ _ (HS7.out.mono (Nat.zero_le _))).mono ?_
   rintro e w8 ⟨v8,rfl,hS8,hg8⟩
   have hsz8:=hg8.size
   (try simp at hsz8)
   obtain ⟨hc8,hf8⟩:=hg8.cells
   have HG8:=Lh hg8
   have HS8:=Lh hS8
   clear hg8 hS8
   have hgr8:Gr wo.heap.size wo w8:=by exact gcc HG8 (gcc HG7 (gcc HG6 (gcc HG5 gzz)))
   have HGR8:=Lh hgr8
   clear hgr8
   have HP8:=Lh (show PL w8 0 u17 S from((HP.out.gr HGR8.out)).mono (Nat.zero_le _))
   go_wp2_with fail
   refine(HAD.out _ _ _ HP8.out (HS8.out.mono (Nat.zero_le _))).mono ?_
   rintro e w9 ⟨v9,rfl,hS9,hg9'⟩
   have HS9:=Lh hS9
   have HG9:=Lh hg9'
   clear hS9 hg9' hc5 hf5 hc6 hf6 hc7 hf7 hc8 hf8
   go_wp2
   go_roundw
   have hz8:=HGR8.out.size
   case rel=>exact⟨n+1,by go_num,by omega,Lh (by rw [HNX.out];exact HS9.out.mono (by omega)),Lh (HQ.out.trans ((HGR8.out.trans (HG9.out.mono hz8)).mono hszr))⟩
   case measure=>simp [intOf];omega
  ·obtain rfl:n=l.length:=by omega
   go_wp2
   go_ret
   exact⟨_,rfl,by have h:=HP.out;rw [List.take_length]at h;exact h.mono hw3,HG.out.trans (HQ.out.mono hw3)⟩
end Go.Proofs.YtfgmdhjmgdccdaaGreat
