/-
  Part 20 of the proof: RimW RimP.
-/
import Derived.Test.YtfgmdhjmgdccdaaGreatJ19
set_option linter.unusedSimpArgs false
set_option linter.unusedVariables false
set_option maxHeartbeats 8000000
namespace Go.Proofs.YtfgmdhjmgdccdaaGreat
open Go.RowKit Gus Go.Maps
set_option maxRecDepth 20000 in
theorem ms_RimG (pts:List Pt) (vp v:Value) (w:World) (l:List Tri) (hP:SR pC 10 64 w 0 vp pts) (hN:pts.length≤1000000) (hS:SR triC 3 106 w 0 v l) (hl:∀t∈l,goodT pts.length t) (hn:l.length≤1000000) (hne0:l≠ []):
  Calls Tryz.prog 66 #[vp,v] w (fun e w'=> ∃v',e= .returned v'∧∃es,SR triC 3 123 w' w.heap.size v' (rimOf (stC l l.length) es)∧es.Perm (stE l l.length)∧es.Pairwise (fun a b=> ¬ordE b a<0)∧Gr w.heap.size w w'):=by
 obtain ⟨ap,cp,rfl⟩:=hP.at
 obtain ⟨av,cv,rfl⟩:=hS.at
 have HN:=Lh (ms_numbered l pts.length _ w hS hl)
 have HT:=Lh hS
 have HL:=Lh hl
 have HNN:=Lh hN
 have hl2:(l.length:Int)≤9223372036854775807:=by omega
 clear hS hl hP
 obtain ⟨i0,hi,hz0,hz1,hz2⟩:=info_parts info_bSide
 have HI:=Lh (And.intro hi (And.intro hz0 (And.intro hz1 hz2)))
 clear hi hz0 hz1 hz2
 have hmm:= @run_makeMap Tryz.prog
 have hw1:IntKind.i64.wrap 1=1:=by decide
 have hw2:IntKind.i64.wrap 2=2:=by decide
 have hw3:IntKind.i64.wrap 3=3:=by decide
 have hw0:IntKind.i64.wrap 0=0:=by decide
 go_enter Tryz.func66,Tryz.ntmps66
 go_wp2_with fail
 (refine rtu (HN.out) fun w1 hsz1 hl1 hc1 hf1 HG1=>?_;(try simp at hsz1))
 go_wp2
 have HMI0:=Lh (show MIR (w1.alloc (.map #[] 0)) w1.heap.size (stC l 0)from MI.new w1 _ _)
 have HG0:=Lh (show Gr w.heap.size w (w1.alloc (.map #[] 0))from by exact gcc HG1 gzz)
 clear hc1 hf1 HG1 hmm HN
 generalize w1.alloc (.map #[] 0)=wz at *
 generalize w1.heap.size=mb at *
 go_loopw [22] (fun s wr=> ∃n:Nat,n≤l.length∧s= .int .i64 n∧Hid (MIR wr mb (stC l n))∧Hid (Gr w.heap.size w wr)) (fun s _=>l.length - (intOf s).toNat)
 case atStart=>exact⟨0,Nat.zero_le _,rfl,HMI0,HG0⟩
 case round=>
  clear HMI0 HG0
  obtain ⟨n,hn1,rfl,HMI1,HG1⟩:=hrel
  have hszr:=HG1.out.size
  have hml:=HMI1.out.lt
  by_cases hlt:n<l.length
  ·obtain ⟨t,ht⟩:∃t,l[n]=t:=⟨_,rfl⟩
   have hg:=HL.out t (ht ▸ List.getElem_mem hlt)
   obtain ⟨x,y,z⟩:=t
   obtain ⟨g1,g2,g3,e1,e2,e3⟩:=hg
   dsimp only at g1 g2 g3 e1 e2 e3
   obtain ⟨g,cap',e4,_,_,_,hsh,hR⟩:=(HT.out.gr HG1.out).block (by intro e;rw [e]at hlt;simp at hlt)
   injection e4 with e4 _ e5
   subst e4 e5
   have hglt:=hsh.lt
   obtain ⟨u0,u1,u2⟩:=hR.fTri hlt ht
   clear hR hsh
   dsimp only at u0 u1 u2
   go_wp2
   clear u0 u1 u2
   have HVB2:=Lh (VB.new wr [.int .i64 (x:Int),.int .i64 (y:Int),.int .i64 (z:Int)] 106)
   have HG2:=Lh (show Gr w.heap.size w (wr.alloc (.cells #[.int .i64 (x:Int),.int .i64 (y:Int),.int .i64 (z:Int)] 106))from by exact gcc HG1 gzz)
   have HMI2:=Lh (HMI1.out.alloc (.cells #[.int .i64 (x:Int),.int .i64 (y:Int),.int .i64 (z:Int)] 106))
   have hml2:mb<wr.heap.size:=hml
   clear HMI1 HG1 hml
   generalize wr.alloc (.cells #[.int .i64 (x:Int),.int .i64 (y:Int),.int .i64 (z:Int)] 106)=wa at *
   generalize wr.heap.size=tb at *
   go_loopw [26] (fun s wr=> ∃k:Nat,k≤3∧s= .int .i64 k∧Hid (MIR wr mb (((dirT (x,y,z) n).take k).foldl cstep (stC l n)))∧Hid (VB wr tb [.int .i64 (x:Int),.int .i64 (y:Int),.int .i64 (z:Int)])∧Hid (Gr w.heap.size w wr)) (fun s _=>3 - (intOf s).toNat)
   case atStart=>exact⟨0,by omega,rfl,HMI2,HVB2,HG2⟩
   case round=>
    clear HVB2 HMI2 HG2
    obtain ⟨k,hk,rfl,HMI,HVB,HG3⟩:=hrel
    have hsz3:=HG3.out.size
    have hvl:=HVB.out.lt
    have hml3:=HMI.out.lt
    by_cases hk3:k<3
    ·go_upto_region 10 with fail
     go_cut [9,10] (fun p q wx=> ∃a b:Nat,p= .int .i64 a∧q= .int .i64 b∧(dirT (x,y,z) n)[k]? =some (a,b,n)∧a≠b∧a<pts.length∧b<pts.length∧Gr wr.heap.size wr wx∧wx.heap.size=wr.heap.size)
     case first=>
      obtain ⟨u0,u1,u2,_⟩:=HVB.out.three
      rcases(show k=0∨k=1∨k=2 by omega)with rfl|rfl|rfl
      ·simp only [show((0:Nat):Int)=0 from rfl]
       refine wp_region_held_drew (S:=(fun w'=>w'.cell? ⟨tb,0,none⟩=some (.int .i64 (x:Int))∧w'.cell? ⟨tb,1,none⟩=some (.int .i64 (y:Int))∧w'.cell? ⟨tb,2,none⟩=some (.int .i64 (z:Int)))) (by kernel_rfl) ?_ (fun hHeld=>?_)
       ·simp [go_sem, *]
       refine tq 0 29 (.int .i64 0) ?_
       refine tq 1 30 (.pointer (some ⟨tb,0,none⟩)) ?_
       refine tq 2 31 (.int .i64 (x:Int)) ?_
       refine tq 3 32 (.int .i64 0) ?_
       refine tq 4 33 (.int .i64 1) ?_
       refine tq 5 34 (.int .i64 1) ?_
       refine tq 6 35 (.pointer (some ⟨tb,1,none⟩)) ?_
       refine tq 7 36 (.int .i64 (y:Int)) ?_
       refine tq 8 9 (.int .i64 (x:Int)) ?_
       refine tq 9 10 (.int .i64 (y:Int)) ?_
       refine wpAnyH_done (by kernel_rfl) ?_ _
       go_wp2_with fail
       go_meet
       exact⟨x,y,rfl,rfl,rfl,by omega,g1,g2,by exact gzz,by simp⟩
      ·simp only [show((1:Nat):Int)=1 from rfl]
       refine wp_region_held_drew (S:=(fun w'=>w'.cell? ⟨tb,0,none⟩=some (.int .i64 (x:Int))∧w'.cell? ⟨tb,1,none⟩=some (.int .i64 (y:Int))∧w'.cell? ⟨tb,2,none⟩=some (.int .i64 (z:Int)))) (by kernel_rfl) ?_ (fun hHeld=>?_)
       ·simp [go_sem, *]
       refine tq 0 29 (.int .i64 1) ?_
       refine tq 1 30 (.pointer (some ⟨tb,1,none⟩)) ?_
       refine tq 2 31 (.int .i64 (y:Int)) ?_
       refine tq 3 32 (.int .i64 1) ?_
       refine tq 4 33 (.int .i64 2) ?_
       refine tq 5 34 (.int .i64 2) ?_
       refine tq 6 35 (.pointer (some ⟨tb,2,none⟩)) ?_
       refine tq 7 36 (.int .i64 (z:Int)) ?_
       refine tq 8 9 (.int .i64 (y:Int)) ?_
       refine tq 9 10 (.int .i64 (z:Int)) ?_
       refine wpAnyH_done (by kernel_rfl) ?_ _
       go_wp2_with fail
       go_meet
       exact⟨y,z,rfl,rfl,rfl,by omega,g2,g3,by exact gzz,by simp⟩
      ·simp only [show((2:Nat):Int)=2 from rfl]
       refine wp_region_held_drew (S:=(fun w'=>w'.cell? ⟨tb,0,none⟩=some (.int .i64 (x:Int))∧w'.cell? ⟨tb,1,none⟩=some (.int .i64 (y:Int))∧w'.cell? ⟨tb,2,none⟩=some (.int .i64 (z:Int)))) (by kernel_rfl) ?_ (fun hHeld=>?_)
       ·simp [go_sem, *]
       refine tq 0 29 (.int .i64 2) ?_
       refine tq 1 30 (.pointer (some ⟨tb,2,none⟩)) ?_
       refine tq 2 31 (.int .i64 (z:Int)) ?_
       refine tq 3 32 (.int .i64 2) ?_
       refine tq 4 33 (.int .i64 3) ?_
       refine tq 5 34 (.int .i64 0) ?_
       refine tq 6 35 (.pointer (some ⟨tb,0,none⟩)) ?_
       refine tq 7 36 (.int .i64 (x:Int)) ?_
       refine tq 8 9 (.int .i64 (z:Int)) ?_
       refine tq 9 10 (.int .i64 (x:Int)) ?_
       refine wpAnyH_done (by kernel_rfl) ?_ _
       go_wp2_with fail
       go_meet
       exact⟨z,x,rfl,rfl,rfl,by omega,g3,g1,by exact gzz,by simp⟩
     case rest=>
      obtain ⟨wb,hwb⟩:∃q,q=wc:=⟨_,rfl⟩
      subst hwb
      obtain ⟨a,b,rfl,rfl,hd,hne,ha,hb,hgb,hszb⟩:=hcut
      replace HMI:=Lh (HMI.out.gr hgb HMI.out.lt)
      replace HVB:=Lh (HVB.out.gr hgb hvl)
      replace HG3:=Lh (HG3.out.trans (hgb.mono hsz3))
      replace hvl:tb<wb.heap.size:=by omega
      replace hsz3:w.heap.size≤wb.heap.size:=by omega
      replace hml3:mb<wb.heap.size:=by omega
      clear hgb hszb
      have hfl:=fold_take (f:=cstep) (b:=stC l n) hd
      have HB:=Lh ((foldC_bnd ((dirT (x,y,z) n).take k) (stC_bnd l n)).mono (n:=3*n+3) (by simp;omega))
      generalize ((dirT (x,y,z) n).take k).foldl cstep (stC l n)=C at *
      have hlen:=HB.out.1
      obtain ⟨lo,hlo⟩:∃q,min a b=q:=⟨_,rfl⟩
      obtain ⟨hi,hhi⟩:∃q,max a b=q:=⟨_,rfl⟩
      have hi1:min (a:Int) b=(lo:Int):=by omega
      have hi2:max (a:Int) b=(hi:Int):=by omega
      have hi3:(if b<a then(b:Int)else(a:Int))=(lo:Int):=by split<;>omega
      have hi4:(if a<b then(b:Int)else(a:Int))=(hi:Int):=by split<;>omega
      have hkey:=keyOf_R (i:=lo) (j:=hi) (by omega) (by omega)
      have hmi:MIR wb.drew mb C:=HMI.out.drew
      rcases hf:C.findIdx? (keyC a b)with _|j
      ·skip
       have hmiss:=keyC_missed hf
       rw [hlo,hhi]at hmiss
       have hlk:(Instr.lookup 186 (.map (some mb)) (endK (lo:Int) (hi:Int)) false).run Tryz.prog wb.drew= .ok (.int .i64 0) (wb.drew):=MI.look_none false hmi keyed_R under_R (zeroInt _) (key:=(endK (lo:Int) (hi:Int))) hkey hmiss
       obtain ⟨sn,w1,hme,hmi1,hkp1,hsz1',hst⟩:=hmi.entry_new keyed_R under_R zeroInt (key:=(endK (lo:Int) (hi:Int))) hkey hmiss (by simp [maxLen];omega)
       have hlk1:(Instr.lookup 186 (.map (some mb)) (endK (lo:Int) (hi:Int)) false).run Tryz.prog w1= .ok (.int .i64 0) w1:=MI.look_some false hmi1 keyed_R under_R (zeroInt _) (key:=(endK (lo:Int) (hi:Int))) (v:= .int .i64 0) hkey (by simp)
       obtain ⟨w3,hes,hmi3,hkp3,hsz3'⟩:=hst w1 (.int .i64 (1)) rfl
       have HMI3:=Lh (show MIR w3 mb (cstep C (a,b,n))from by rw [cstep_none hf,hlo,hhi];show MI _ _ _ _ (List.map _ _);rw [List.map_append];exact hmi3)
       go_upto_region 11 with fail
       have HKP1:=Lh hkp1
       have HKP3:=Lh hkp3
       have hs1:wb.heap.size≤w1.heap.size:=by rw [hsz1'];exact Nat.le_refl _
       clear hmi1 hmi3 hkp1 hkp3 hst hsz1' hsz3'
       refine wp_region_held_drew (S:=(fun w'=>True)) (by kernel_rfl) ?_ (fun hHeld=>?_)
       ·simp [go_sem, *]
       refine tq 0 37 (.map (some mb)) ?_
       refine tq 1 38 (.int .i64 (a:Int)) ?_
       refine tq 2 39 (.int .i64 (b:Int)) ?_
       refine tq 3 40 (.int .i64 (lo:Int)) ?_
       refine tq 4 41 (.int .i64 (a:Int)) ?_
       refine tq 5 42 (.int .i64 (b:Int)) ?_
       refine tq 6 43 (.int .i64 (hi:Int)) ?_
       refine tq 7 44 (.agg #[.int .i64 (lo:Int),.int .i64 (hi:Int)]) ?_
       refine rdZ 8 10 (fun K hK=>?_) (fun K hK=>?_)
       ·go_simp
        (try dsimp only)
        refine hK.out _ _ ?_ (fun hQ1=>?_)
        ·exact trivial
        clear hK K hHeld
        try simp only [pS]
        refine tq 9 46 (.int .i64 (1)) ?_
        refine rd 10 (fun K hK=>?_)
        go_simp
        refine kO hK fun hQ2=>?_
        clear hK K hQ1
        refine tq 11 48 (.int .i64 (sn:Int)) ?_
        refine rd 12 (fun K hK=>?_)
        go_simp
        refine kO hK fun hQ3=>?_
        clear hK K hQ2
        refine wpAnyH_done (by kernel_rfl) ?_ _
        go_wp2
        go_roundw
        case rel=>exact⟨k+1,by omega,by go_num,Lh (by rw [hfl];exact HMI3.out),Lh ((HVB.out.drew.kp HKP1.out (by simp;omega)).kp HKP3.out (by simp;omega)),Lh (((show Gr w.heap.size w wb.drew from by exact gcc HG3 gzz).trans (HKP1.out.gr (fun b e=>by cases e;exact hsz1) (by simp;omega))).trans (HKP3.out.gr (fun b e=>by cases e;exact hsz1) (by omega)))⟩
        case measure=>simp [intOf];omega
       ·go_simp
        (try dsimp only)
        refine hK.out _ _ ?_ (fun hQ1=>?_)
        ·exact trivial
        clear hK K hHeld
        try simp only [pS]
        refine tq 11 48 (.int .i64 (sn:Int)) ?_
        refine rd 8 (fun K hK=>?_)
        go_simp
        refine kO hK fun hQ2=>?_
        clear hK K hQ1
        refine tq 9 46 (.int .i64 (1)) ?_
        refine rd 12 (fun K hK=>?_)
        go_simp
        refine kO hK fun hQ3=>?_
        clear hK K hQ2
        refine wpAnyH_done (by kernel_rfl) ?_ _
        go_wp2
        go_roundw
        case rel=>exact⟨k+1,by omega,by go_num,Lh (by rw [hfl];exact HMI3.out),Lh ((HVB.out.drew.kp HKP1.out (by simp;omega)).kp HKP3.out (by simp;omega)),Lh (((show Gr w.heap.size w wb.drew from by exact gcc HG3 gzz).trans (HKP1.out.gr (fun b e=>by cases e;exact hsz1) (by simp;omega))).trans (HKP3.out.gr (fun b e=>by cases e;exact hsz1) (by omega)))⟩
        case measure=>simp [intOf];omega
      ·skip
       obtain ⟨⟨ca,cb,c⟩,he,h1,h2⟩:=keyC_found hf
       dsimp only at h1 h2
       rw [hlo]at h1
       rw [hhi]at h2
       subst h1 h2
       have hget:(C.map eR)[j]? =some (eR ((lo:Int),(hi:Int),c)):=by rw [List.getElem?_map,he];rfl
       have hmem:=List.mem_of_getElem? hget
       have hcb:=HB.out.2 _ (List.mem_of_getElem? he)
       dsimp only at hcb
       have hlk:(Instr.lookup 186 (.map (some mb)) (endK (lo:Int) (hi:Int)) false).run Tryz.prog wb.drew= .ok (.int .i64 c) (wb.drew):=MI.look_some false hmi keyed_R under_R (zeroInt _) (key:=(endK (lo:Int) (hi:Int))) (v:= .int .i64 c) hkey hmem
       obtain ⟨sn,w1,hme,hmi1,hkp1,hsz1',hst⟩:=hmi.entry_old keyed_R under_R (key:=(endK (lo:Int) (hi:Int))) (u:= .int .i64 c) (j:=j) hkey hget
       have hlk1:(Instr.lookup 186 (.map (some mb)) (endK (lo:Int) (hi:Int)) false).run Tryz.prog w1= .ok (.int .i64 c) w1:=MI.look_some false hmi1 keyed_R under_R (zeroInt _) (key:=(endK (lo:Int) (hi:Int))) (v:= .int .i64 c) hkey (by exact hmem)
       obtain ⟨w3,hes,hmi3,hkp3,hsz3'⟩:=hst w1 (.int .i64 (c+1)) rfl
       have HMI3:=Lh (show MIR w3 mb (cstep C (a,b,n))from by rw [cstep_some hf he];show MI _ _ _ _ (List.map _ _);rw [List.map_set];exact hmi3)
       have hwc:IntKind.i64.wrap (c+1)=c+1:=wrap64_id (by omega) (by omega)
       go_upto_region 11 with fail
       have HKP1:=Lh hkp1
       have HKP3:=Lh hkp3
       have hs1:wb.heap.size≤w1.heap.size:=by rw [hsz1'];exact Nat.le_refl _
       clear hmi1 hmi3 hkp1 hkp3 hst hsz1' hsz3'
       refine wp_region_held_drew (S:=(fun w'=>True)) (by kernel_rfl) ?_ (fun hHeld=>?_)
       ·simp [go_sem, *]
       refine tq 0 37 (.map (some mb)) ?_
       refine tq 1 38 (.int .i64 (a:Int)) ?_
       refine tq 2 39 (.int .i64 (b:Int)) ?_
       refine tq 3 40 (.int .i64 (lo:Int)) ?_
       refine tq 4 41 (.int .i64 (a:Int)) ?_
       refine tq 5 42 (.int .i64 (b:Int)) ?_
       refine tq 6 43 (.int .i64 (hi:Int)) ?_
       refine tq 7 44 (.agg #[.int .i64 (lo:Int),.int .i64 (hi:Int)]) ?_
       refine rdZ 8 10 (fun K hK=>?_) (fun K hK=>?_)
       ·go_simp
        (try dsimp only)
        refine hK.out _ _ ?_ (fun hQ1=>?_)
        ·exact trivial
        clear hK K hHeld
        try simp only [pS]
        refine tq 9 46 (.int .i64 (c+1)) ?_
        refine rd 10 (fun K hK=>?_)
        go_simp
        refine kO hK fun hQ2=>?_
        clear hK K hQ1
        refine tq 11 48 (.int .i64 (sn:Int)) ?_
        refine rd 12 (fun K hK=>?_)
        go_simp
        refine kO hK fun hQ3=>?_
        clear hK K hQ2
        refine wpAnyH_done (by kernel_rfl) ?_ _
        go_wp2
        go_roundw
        case rel=>exact⟨k+1,by omega,by go_num,Lh (by rw [hfl];exact HMI3.out),Lh ((HVB.out.drew.kp HKP1.out (by simp;omega)).kp HKP3.out (by simp;omega)),Lh (((show Gr w.heap.size w wb.drew from by exact gcc HG3 gzz).trans (HKP1.out.gr (fun b e=>by cases e;exact hsz1) (by simp;omega))).trans (HKP3.out.gr (fun b e=>by cases e;exact hsz1) (by omega)))⟩
        case measure=>simp [intOf];omega
       ·go_simp
        (try dsimp only)
        refine hK.out _ _ ?_ (fun hQ1=>?_)
        ·exact trivial
        clear hK K hHeld
        try simp only [pS]
        refine tq 11 48 (.int .i64 (sn:Int)) ?_
        refine rd 8 (fun K hK=>?_)
        go_simp
        refine kO hK fun hQ2=>?_
        clear hK K hQ1
        refine tq 9 46 (.int .i64 (c+1)) ?_
        refine rd 12 (fun K hK=>?_)
        go_simp
        refine kO hK fun hQ3=>?_
        clear hK K hQ2
        refine wpAnyH_done (by kernel_rfl) ?_ _
        go_wp2
        go_roundw
        case rel=>exact⟨k+1,by omega,by go_num,Lh (by rw [hfl];exact HMI3.out),Lh ((HVB.out.drew.kp HKP1.out (by simp;omega)).kp HKP3.out (by simp;omega)),Lh (((show Gr w.heap.size w wb.drew from by exact gcc HG3 gzz).trans (HKP1.out.gr (fun b e=>by cases e;exact hsz1) (by simp;omega))).trans (HKP3.out.gr (fun b e=>by cases e;exact hsz1) (by omega)))⟩
        case measure=>simp [intOf];omega
    ·have hk0:k=3:=by omega
     subst hk0
     go_wp2
     go_roundw
     case rel=>exact⟨n+1,by omega,by go_num,Lh (by rw [stC_succ (by rw [List.getElem?_eq_getElem hlt,ht])];exact HMI.out),HG3⟩
     case measure=>simp [intOf];omega
  ·have hnl:n=l.length:=by omega
   subst hnl
   have HB:=Lh (stC_bnd l l.length)
   have HMI6:=Lh (show MIR wr mb (stC l l.length)from HMI1.out)
   clear HMI1
   go_wp2_with fail
   refine(ms_edgesG _ wr l pts.length (by have:=HNN.out;omega) (HT.out.gr HG1.out) HL.out hn hne0).mono ?_
   rintro e w2 ⟨v2,rfl,es,hS2,hpm,hpw,hg2⟩
   obtain ⟨ve,ce,rfl⟩:=hS2.at
   have hel:es.length≤3*l.length:=by rw [hpm.length_eq];exact stE_len _ _
   have HEN:=Lh (show Ends pts.length es from fun e he=>stE_ends HL.out l.length e (hpm.subset he))
   have HPM:=Lh (And.intro hpm hpw)
   have HS2:=Lh hS2
   have HG2:=Lh (HG1.out.trans (hg2.mono hszr))
   have hszw:=HG2.out.size
   have HMI7:=Lh (HMI6.out.gr hg2 hml)
   have hsz2:=hg2.size
   have hl3:(es.length:Int)≤9223372036854775807:=by omega
   clear hS2 hg2 HMI6 hpm hpw
   go_wp2
   go_loopw [11,54] (fun p s wr=> ∃j:Nat,j≤es.length∧s= .int .i64 j∧Hid (SL triC 3 123 wr w2.heap.size p (rimOf (stC l l.length) (es.take j)))∧Hid (Gr w2.heap.size w2 wr)) (fun _ s _=>es.length - (intOf s).toNat)
   case atStart=>exact⟨0,Nat.zero_le _,rfl,Lh SL.nil,Lh (Gr.refl _ _)⟩
   case round=>
    obtain ⟨j,hj,rfl,HP,HG3⟩:=hrel
    have hsz3:=HG3.out.size
    obtain ⟨pa,pc,rfl⟩:=HP.out.at
    have HMI:=Lh (HMI7.out.gr HG3.out (by omega))
    by_cases hlt:j<es.length
    ·obtain ⟨e0,he0⟩:∃t,es[j]=t:=⟨_,rfl⟩
     have hget:es[j]? =some e0:=by rw [List.getElem?_eq_getElem hlt,he0]
     obtain ⟨p,q,hp,hq,hpN,hqN⟩:=HEN.out e0 (List.mem_of_getElem? hget)
     obtain ⟨ea,eb,el,er⟩:=e0
     dsimp only at hp hq
     subst hp hq
     have hsucc:=rimOf_succ (C:=stC l l.length) hget
     obtain ⟨ge,ce',e4,_,_,_,hshe,hRe⟩:=HS2.out.block (by intro e;rw [e]at hlt;simp at hlt)
     injection e4 with e4 _ e5
     subst e4 e5
     have hgel:=hshe.lt
     obtain ⟨v0,v1,v2,v3⟩:=(hRe.gr HG3.out hgel).fE hlt he0
     clear hRe hshe
     dsimp only at v0 v1 v2 v3 hsucc
     have hkey:=keyOf_R (i:=p) (j:=q) (by have:=HNN.out;omega) (by have:=HNN.out;omega)
     have hrl:=rimOf_len (stC l l.length) (es.take j)
     rw [List.length_take]at hrl
     have hlk:∀W:World,Gr wr.heap.size wr W→(Instr.lookup 186 (.map (some mb)) (.agg #[.int .i64 (p:Int),.int .i64 (q:Int)]) false).run Tryz.prog W= .ok (.int .i64 (cntC (stC l l.length) p q)) W:=fun W hW=>by
      by_cases hx:∃c∈stC l l.length,c.1=(p:Int)∧c.2.1=(q:Int)
      ·exact MI.look_some false (HMI.out.gr hW HMI.out.lt) keyed_R under_R (zeroInt _) hkey (cntC_look (.inr hx))
      ·obtain ⟨h1,h2⟩:=cntC_zero hx
       rw [h1]
       exact MI.look_none false (HMI.out.gr hW HMI.out.lt) keyed_R under_R (zeroInt _) hkey h2
     replace hlk:=Lh hlk
     by_cases hc1:cntC (stC l l.length) (p:Int) (q:Int)=1
     ·rw [if_pos hc1]at hsucc
      go_wp2_with (first
       | (at_lookup;refine wpM_look _ (b:=mb) (.int .i64 1) false rfl _ _ rfl rfl (by rw [←hc1];exact hlk.out _ (by exact gzz)) ?_)
       | (at_builtin;refine wpList_appS _ rfl _ _ 33 rfl w2.heap.size i0 _ 24 Tryz.underlying33 HI.out.1 HI.out.2.1 HI.out.2.2.1 HI.out.2.2.2 rfl (by decide) triC_len triC_one _ (rimOf (stC l l.length) (es.take j)) rfl (HP.out.gr (by exact gzz)) (wr.heap.size+1) _ [(p,q,0)] 1 rfl rfl (RC.new1' (by simp) rfl) (by simp [maxLen];omega) (by simp;omega) (by simp;omega) ?_;intro v' w4 hS4 hkp4 hown;have HS4:=Lh (And.intro hS4 hkp4);clear hS4 hkp4 hown))
      go_roundw
      case rel=>exact⟨j+1,by omega,by go_num,Lh (by rw [hsucc];exact HS4.out.1),Lh (HG3.out.trans ((show Gr w2.heap.size wr _ from by exact gzz).trans (HS4.out.2.gr (fun b e=>HP.out.own_ge e) (by simp;omega))))⟩
      case measure=>simp [intOf];omega
     ·rw [if_neg hc1,List.append_nil]at hsucc
      have hne1:(cntC (stC l l.length) (p:Int) (q:Int) == 1)=false:=by simpa using hc1
      go_wp2_with (first
       | (at_lookup;refine wpM_look _ (b:=mb) (.int .i64 (cntC (stC l l.length) p q)) false rfl _ _ rfl rfl (hlk.out _ (by exact gzz)) ?_))
      go_roundw
      case rel=>exact⟨j+1,by omega,by go_num,Lh (by rw [hsucc];exact HP.out.gr (by exact gzz)),Lh (HG3.out.trans (by exact gzz))⟩
      case measure=>simp [intOf];omega
    ·have hjl:j=es.length:=by omega
     subst hjl
     rw [List.take_length]at HP
     go_wp2_with fail
     refine(clip_Side _ _ w2.heap.size wr HP.out.sr).mono ?_
     rintro e w5 ⟨v5,rfl,hS5,hg5⟩
     have HS5:=Lh (And.intro hS5 hg5)
     clear hS5 hg5
     go_wp2
     go_ret
     exact⟨v5,rfl,es,HS5.out.1.mono (by omega),HPM.out.1,HPM.out.2,(HG2.out.trans (HG3.out.mono (by omega))).trans (HS5.out.2.mono (by omega))⟩
end Go.Proofs.YtfgmdhjmgdccdaaGreat
namespace Go.Proofs.YtfgmdhjmgdccdaaGreat
open Go.RowKit Gus Go.Maps
def has3 (t:Tri) (q:Nat):Bool:=t.1 == q || t.2.1 == q || t.2.2 == q
def keyD (a b:Nat) (d:DE):Bool:=min d.1 d.2.1 == a && max d.1 d.2.1 == b
theorem cntC_step (C:List CE) (d:DE) (a b:Nat):cntC (cstep C d) a b=cntC C a b+(if keyD a b d=true then 1 else 0):=by
 obtain ⟨x,y,t⟩:=d
 rcases hf:C.findIdx? (keyC x y)with _|j
 ·rw [cstep_none hf]
  rw [List.findIdx?_eq_none_iff]at hf
  by_cases hk:keyD a b (x,y,t)=true
  ·rw [if_pos hk]
   simp only [keyD,Bool.and_eq_true,beq_iff_eq]at hk
   have h0:C.find? (fun c=>c.1 == (a:Int) && c.2.1 == (b:Int))=none:=by
    rw [List.find?_eq_none]
    intro c hc
    have:=hf c hc
    simpa [keyC,hk.1,hk.2] using this
   unfold cntC
   rw [List.find?_append,h0]
   simp [hk.1,hk.2]
  ·rw [if_neg hk]
   simp only [keyD,Bool.and_eq_true,beq_iff_eq]at hk
   unfold cntC
   rw [List.find?_append]
   have h1:List.find? (fun c=>c.1 == (a:Int) && c.2.1 == (b:Int)) [(((min x y:Nat):Int),((max x y:Nat):Int),(1:Int))]=none:=by
    rw [List.find?_eq_none]
    intro c hc
    simp only [List.mem_singleton]at hc
    subst hc
    simp only [Bool.and_eq_true,beq_iff_eq,not_and]
    intro h2 h3
    exact hk ⟨by omega,by omega⟩
   rw [h1,Option.or_none]
   simp
 ·obtain ⟨c,hc,h1,h2⟩:=keyC_found hf
  rw [cstep_some hf hc]
  rw [List.findIdx?_eq_some_iff_getElem]at hf
  obtain ⟨hj,hk1,hk2⟩:=hf
  have hcj:C[j]=c:=by rw [List.getElem?_eq_getElem hj]at hc;exact Option.some.inj hc
  have hsplit:C=C.take j++c :: C.drop (j+1):=by rw [←hcj];simp
  have hset:C.set j (c.1,c.2.1,c.2.2+1)=C.take j++(c.1,c.2.1,c.2.2+1) :: C.drop (j+1):=by rw [List.set_eq_take_append_cons_drop,if_pos hj]
  unfold cntC
  have hC:C.find? (fun c=>c.1 == (a:Int) && c.2.1 == (b:Int))=(C.take j++c :: C.drop (j+1)).find? (fun c=>c.1 == (a:Int) && c.2.1 == (b:Int)):=by rw [←hsplit]
  rw [hset,hC,List.find?_append,List.find?_append]
  by_cases hk:keyD a b (x,y,t)=true
  ·rw [if_pos hk]
   simp only [keyD,Bool.and_eq_true,beq_iff_eq]at hk
   have h0:(C.take j).find? (fun c=>c.1 == (a:Int) && c.2.1 == (b:Int))=none:=by
    rw [List.find?_eq_none]
    intro u hu
    obtain ⟨i,hi,rfl⟩:=List.mem_take_iff_getElem.1 hu
    have:=hk2 i (by omega)
    simpa [keyC,hk.1,hk.2] using this
   rw [h0]
   simp [h1,h2,hk.1,hk.2]
  ·rw [if_neg hk]
   simp only [keyD,Bool.and_eq_true,beq_iff_eq]at hk
   have h3:¬(c.1=(a:Int)∧c.2.1=(b:Int)):=by rw [h1,h2];intro h;exact hk ⟨by omega,by omega⟩
   have h4:(c.1 == (a:Int) && c.2.1 == (b:Int))=false:=by
    rw [Bool.eq_false_iff];simpa using h3
   simp only [List.find?_cons,h4]
   simp
theorem cntC_fold (D:List DE) (C:List CE) (a b:Nat):cntC (D.foldl cstep C) a b=cntC C a b+(D.countP (keyD a b):Nat):=by
 induction D generalizing C with
 | nil=>simp
 | cons d D ih=>
  rw [List.foldl_cons,ih,cntC_step,List.countP_cons]
  split<;>simp<;>omega
theorem dirT_count {x y z a b n:Nat} (h1:x≠y) (h2:y≠z) (h3:z≠x) (hab:a<b):(dirT (x,y,z) n).countP (keyD a b)=if has3 (x,y,z) a && has3 (x,y,z) b then 1 else 0:=by
 simp only [dirT,List.countP_cons,List.countP_nil,keyD,has3,Bool.and_eq_true,Bool.or_eq_true,beq_iff_eq]
 repeat' split
 all_goals omega
theorem stC_count {N:Nat} {l:List Tri} (hl:∀t∈l,goodT N t) {a b:Nat} (hab:a<b) (n:Nat):cntC (stC l n) a b=(((l.take n).countP fun t=>has3 t a && has3 t b):Nat):=by
 induction n with
 | zero=>simp [stC,cntC]
 | succ n ih=>
  rcases ht:l[n]? with _|t
  ·have hle:l.length≤n:=List.getElem?_eq_none_iff.1 ht
   have e1:stC l (n+1)=stC l n:=by simp [stC,ht]
   rw [e1,ih,List.take_of_length_le hle,List.take_of_length_le (by omega)]
  ·obtain ⟨g1,g2,g3,e1,e2,e3⟩:=hl t (List.mem_of_getElem? ht)
   rw [stC_succ ht,cntC_fold,ih,List.take_add_one,ht,List.countP_append]
   obtain ⟨x,y,z⟩:=t
   rw [dirT_count e1 e2 e3 hab]
   simp [List.countP_cons]
def ends (E:List Edg):List (Int×Int):=E.map fun e=>(e.a,e.b)
theorem estep_ends_mem (E:List Edg) (d:DE) (p:Int×Int):p∈ends (estep E d)↔p∈ends E∨p=(((min d.1 d.2.1:Nat):Int),((max d.1 d.2.1:Nat):Int)):=by
 unfold ends
 rw [estep_keys]
 split
 ·rename_i h
  constructor
  ·exact .inl
  ·rintro (h1|rfl)
   ·exact h1
   ·rw [List.any_eq_true]at h
    obtain ⟨e,he,hk⟩:=h
    simp only [keyE,Bool.and_eq_true,beq_iff_eq]at hk
    exact List.mem_map.2 ⟨e,he,by rw [hk.1,hk.2]⟩
 ·simp
theorem estep_nodup {E:List Edg} (d:DE) (h:(ends E).Nodup):(ends (estep E d)).Nodup:=by
 unfold ends at h ⊢
 rw [estep_keys]
 split
 ·exact h
 ·rename_i hn
  rw [List.nodup_append]
  refine⟨h,by simp,?_⟩
  intro p hp q hq e
  simp only [List.mem_singleton]at hq
  subst hq
  obtain ⟨x,hx,hp⟩:=List.mem_map.1 hp
  apply hn
  rw [List.any_eq_true]
  refine⟨x,hx,?_⟩
  rw [e]at hp
  simp only [Prod.mk.injEq]at hp
  simp [keyE,hp.1,hp.2]
theorem fold_nodupE (D:List DE) {E:List Edg} (h:(ends E).Nodup):(ends (D.foldl estep E)).Nodup:=by
 induction D generalizing E with
 | nil=>exact h
 | cons d D ih=>exact ih (estep_nodup d h)
theorem stE_nodup (l:List Tri) (n:Nat):(ends (stE l n)).Nodup:=by
 induction n with
 | zero=>simp [stE,ends]
 | succ n ih=>simp only [stE];split;exact fold_nodupE _ ih;exact ih
theorem fold_mem_E (D:List DE) (E:List Edg) (p:Int×Int):p∈ends (D.foldl estep E)↔p∈ends E∨∃d∈D,p=(((min d.1 d.2.1:Nat):Int),((max d.1 d.2.1:Nat):Int)):=by
 induction D generalizing E with
 | nil=>simp
 | cons d D ih=>rw [List.foldl_cons,ih,estep_ends_mem];simp [or_assoc]
theorem dirT_mem {x y z n a b:Nat} (h1:x≠y) (h2:y≠z) (h3:z≠x):(∃d∈dirT (x,y,z) n,((a:Int),(b:Int))=(((min d.1 d.2.1:Nat):Int),((max d.1 d.2.1:Nat):Int)))↔a<b∧has3 (x,y,z) a=true∧has3 (x,y,z) b=true:=by
 simp only [dirT,List.mem_cons,List.not_mem_nil,or_false,exists_eq_or_imp,exists_eq_left,Prod.mk.injEq,has3,Bool.or_eq_true,beq_iff_eq]
 constructor
 ·rintro (h|h|h)<;>omega
 ·intro h;omega
theorem stE_mem {N:Nat} {l:List Tri} (hl:∀t∈l,goodT N t) (a b n:Nat):((a:Int),(b:Int))∈ends (stE l n)↔a<b∧∃t∈l.take n,has3 t a=true∧has3 t b=true:=by
 induction n with
 | zero=>simp [stE,ends]
 | succ n ih=>
  rcases ht:l[n]? with _|t
  ·have hle:l.length≤n:=List.getElem?_eq_none_iff.1 ht
   have e1:stE l (n+1)=stE l n:=by simp [stE,ht]
   rw [e1,ih,List.take_of_length_le hle,List.take_of_length_le (by omega)]
  ·obtain ⟨g1,g2,g3,e1,e2,e3⟩:=hl t (List.mem_of_getElem? ht)
   rw [stE_succ ht,fold_mem_E,ih,List.take_add_one,ht]
   obtain ⟨x,y,z⟩:=t
   rw [dirT_mem e1 e2 e3]
   simp only [Option.toList_some,List.mem_append,List.mem_singleton]
   constructor
   ·rintro (⟨h,t,h1,h2⟩|⟨h,h1⟩)
    ·exact⟨h,t,.inl h1,h2⟩
    ·exact⟨h,_,.inr rfl,h1⟩
   ·rintro ⟨h,t,h1|rfl,h2⟩
    ·exact .inl ⟨h,t,h1,h2⟩
    ·exact .inr ⟨h,h2⟩
def ltI (p q:Int×Int):Prop:=p.1<q.1∨p.1=q.1∧p.2<q.2
theorem sorted_ext {l m:List (Int×Int)} (h1:l.Pairwise ltI) (h2:m.Pairwise ltI) (h:∀p,p∈l↔p∈m):l=m:=by
 have nd:∀ {l:List (Int×Int)},l.Pairwise ltI→l.Nodup:=fun h=>h.imp (fun {a b} hab e=>by subst e;unfold ltI at hab;omega)
 refine List.Perm.eq_of_pairwise (le:=ltI) ?_ h1 h2 ((List.perm_ext_iff_of_nodup (nd h1) (nd h2)).2 h)
 intro a b _ _ hab hba
 unfold ltI at hab hba
 omega
theorem es_sorted {E es:List Edg} (hE:(ends E).Nodup) (hp:es.Perm E) (hs:es.Pairwise fun a b=> ¬ordE b a<0):(ends es).Pairwise ltI:=by
 have hn:(ends es).Nodup:=((hp.map _).nodup_iff).2 hE
 unfold ends at hn ⊢
 rw [List.pairwise_map]
 have hn':es.Pairwise fun a b=>(a.a,a.b)≠(b.a,b.b):=List.pairwise_map.1 hn
 refine(hs.and hn').imp ?_
 rintro a b ⟨h1,h2⟩
 rw [ordE_lt]at h1
 unfold ltI
 simp only [ne_eq,Prod.mk.injEq,not_and]at h2 ⊢
 omega
theorem es_unique {E es es':List Edg} (hE:(ends E).Nodup) (hp:es.Perm E) (hs:es.Pairwise fun a b=> ¬ordE b a<0) (hp':es'.Perm E) (hs':es'.Pairwise fun a b=> ¬ordE b a<0):es=es':=by
 refine List.Perm.eq_of_pairwise (le:=fun a b=>ltI (a.a,a.b) (b.a,b.b)) ?_ (List.pairwise_map.1 (es_sorted hE hp hs)) (List.pairwise_map.1 (es_sorted hE hp' hs')) (hp.trans hp'.symm)
 intro a b _ _ hab hba
 unfold ltI at hab hba
 simp only at hab hba
 omega
theorem rim_pairs {N:Nat} {l:List Tri} (hl:∀t∈l,goodT N t) {es:List Edg} (hp:es.Perm (stE l l.length)) (hs:es.Pairwise fun a b=> ¬ordE b a<0):
  ((rimOf (stC l l.length) es).map fun t=>((t.1:Int),(t.2.1:Int))).Pairwise ltI∧∀a b:Nat,((a:Int),(b:Int))∈(rimOf (stC l l.length) es).map (fun t=>((t.1:Int),(t.2.1:Int)))↔a<b∧(l.countP fun t=>has3 t a && has3 t b)=1:=by
 have hen:Ends N es:=fun e he=>stE_ends hl l.length e (hp.subset he)
 have e0:(rimOf (stC l l.length) es).map (fun t=>((t.1:Int),(t.2.1:Int)))=ends (es.filter fun e=>cntC (stC l l.length) e.a e.b == 1):=by
  unfold rimOf ends
  rw [List.map_map]
  refine List.map_congr_left fun e he=>?_
  obtain ⟨i,j,h1,h2,_⟩:=hen e (List.mem_filter.1 he).1
  simp [h1,h2]
 rw [e0]
 constructor
 ·unfold ends
  rw [List.pairwise_map]
  exact(List.pairwise_map.1 (es_sorted (stE_nodup l l.length) hp hs)).sublist List.filter_sublist
 ·intro a b
  have hm:=stE_mem hl a b l.length
  rw [List.take_length]at hm
  constructor
  ·intro h
   obtain ⟨e,he,h1⟩:=List.mem_map.1 h
   obtain ⟨he,hc⟩:=List.mem_filter.1 he
   simp only [Prod.mk.injEq]at h1
   obtain ⟨h1,h2⟩:=h1
   have hab:=(hm.1 (List.mem_map.2 ⟨e,hp.subset he,by rw [h1,h2]⟩)).1
   rw [h1,h2,stC_count hl hab,List.take_length]at hc
   exact⟨hab,by have:=eq_of_beq hc;omega⟩
  ·rintro ⟨hab,hc⟩
   have h1:((a:Int),(b:Int))∈ends (stE l l.length):=by
    rw [hm]
    refine⟨hab,?_⟩
    have h2:0<l.countP fun t=>has3 t a && has3 t b:=by omega
    rw [List.countP_pos_iff]at h2
    obtain ⟨t,ht,h3⟩:=h2
    simp only [Bool.and_eq_true]at h3
    exact⟨t,ht,h3⟩
   obtain ⟨e,he,h2⟩:=List.mem_map.1 h1
   simp only [Prod.mk.injEq]at h2
   refine List.mem_map.2 ⟨e,List.mem_filter.2 ⟨hp.symm.subset he,?_⟩,by rw [h2.1,h2.2]⟩
   rw [h2.1,h2.2,stC_count hl hab,List.take_length,hc]
   rfl
end Go.Proofs.YtfgmdhjmgdccdaaGreat
