/-
  Part 19 of the proof: EdgW SqG RimG.
-/
import Derived.Test.YtfgmdhjmgdccdaaGreatJ18
import Derived.Test.YtfgmdhjmgdccdaaGreatJ17
set_option linter.unusedSimpArgs false
set_option linter.unusedVariables false
set_option maxHeartbeats 8000000
namespace Go.Proofs.YtfgmdhjmgdccdaaGreat
open Go.RowKit Gus Go.Maps
theorem fold_take {α β:Type} {f:β→α→β} {l:List α} {k:Nat} {d:α} {b:β} (h:l[k]? =some d):(l.take (k+1)).foldl f b=f ((l.take k).foldl f b) d:=by
 rw [List.take_add_one,h,List.foldl_append];rfl
set_option maxRecDepth 20000 in
theorem ms_edgesG (v:Value) (w:World) (l:List Tri) (N:Nat) (hN:N≤4611686018427387904) (hS:SR triC 3 106 w 0 v l) (hl:∀t∈l,goodT N t) (hn:l.length≤1000000) (hne0:l≠ []):
  Calls Tryz.prog 31 #[v] w (fun e w'=> ∃v',e= .returned v'∧∃es,SR eC 4 44 w' w.heap.size v' es∧es.Perm (stE l l.length)∧es.Pairwise (fun a b=> ¬ordE b a<0)∧Gr w.heap.size w w'):=by
 obtain ⟨av,cv,rfl⟩:=hS.at
 have HT:=Lh hS
 have HL:=Lh hl
 have hl2:(l.length:Int)≤9223372036854775807:=by omega
 clear hS hl
 have hmm:= @run_makeMap Tryz.prog
 obtain ⟨i0,hi,hz0,hz1,hz2⟩:=info_parts info_bEdge
 have HI:=Lh (And.intro hi (And.intro hz0 (And.intro hz1 hz2)))
 clear hi hz0 hz1 hz2
 have hw1:IntKind.i64.wrap 1=1:=by decide
 have hw2:IntKind.i64.wrap 2=2:=by decide
 have hw3:IntKind.i64.wrap 3=3:=by decide
 have hw0:IntKind.i64.wrap 0=0:=by decide
 go_enter Tryz.func31,Tryz.ntmps31
 go_wp2
 have HMI0:=Lh (show MIE (w.alloc (.map #[] 0)) w.heap.size (stE l 0)from MI.new w _ _)
 go_loopw [18] (fun s wr=> ∃n:Nat,n≤l.length∧s= .int .i64 n∧Hid (MIE wr w.heap.size (stE l n))∧Hid (Gr w.heap.size w wr)) (fun s _=>l.length - (intOf s).toNat)
 case atStart=>exact⟨0,Nat.zero_le _,rfl,HMI0,Lh (by exact gzz)⟩
 case round=>
  clear HMI0
  obtain ⟨n,hn1,rfl,HMI1,HG1⟩:=hrel
  have hsz1:=HG1.out.size
  have hml:=HMI1.out.lt
  by_cases hlt:n<l.length
  ·obtain ⟨t,ht⟩:∃t,l[n]=t:=⟨_,rfl⟩
   have hg:=HL.out t (ht ▸ List.getElem_mem hlt)
   obtain ⟨x,y,z⟩:=t
   obtain ⟨g1,g2,g3,e1,e2,e3⟩:=hg
   dsimp only at g1 g2 g3 e1 e2 e3
   obtain ⟨g,cap',e4,_,_,_,hsh,hR⟩:=(HT.out.gr HG1.out).block (by intro e;rw [e]at hlt;simp at hlt)
   injection e4 with e4 _ e5
   subst e4 e5
   have hglt:=hsh.lt
   obtain ⟨u0,u1,u2⟩:=hR.fTri hlt ht
   clear hR hsh
   dsimp only at u0 u1 u2
   go_wp2
   clear u0 u1 u2
   have HVB2:=Lh (VB.new wr [.int .i64 (x:Int),.int .i64 (y:Int),.int .i64 (z:Int)] 106)
   have HG2:=Lh (show Gr w.heap.size w (wr.alloc (.cells #[.int .i64 (x:Int),.int .i64 (y:Int),.int .i64 (z:Int)] 106))from by exact gcc HG1 gzz)
   have HMI2:=Lh (HMI1.out.alloc (.cells #[.int .i64 (x:Int),.int .i64 (y:Int),.int .i64 (z:Int)] 106))
   have hml2:w.heap.size<wr.heap.size:=hml
   clear HMI1 HG1 hsz1 hml
   generalize wr.alloc (.cells #[.int .i64 (x:Int),.int .i64 (y:Int),.int .i64 (z:Int)] 106)=wa at *
   generalize wr.heap.size=tb at *
   go_loopw [23] (fun s wr=> ∃k:Nat,k≤3∧s= .int .i64 k∧Hid (MIE wr w.heap.size (((dirT (x,y,z) n).take k).foldl estep (stE l n)))∧Hid (VB wr tb [.int .i64 (x:Int),.int .i64 (y:Int),.int .i64 (z:Int)])∧Hid (Gr w.heap.size w wr)) (fun s _=>3 - (intOf s).toNat)
   case atStart=>exact⟨0,by omega,rfl,HMI2,HVB2,HG2⟩
   case round=>
    clear HVB2 HMI2 HG2
    obtain ⟨k,hk,rfl,HMI,HVB,HG3⟩:=hrel
    have hsz3:=HG3.out.size
    have hvl:=HVB.out.lt
    by_cases hk3:k<3
    ·go_upto_region 8 with fail
     go_cut [7,8] (fun p q wx=> ∃a b:Nat,p= .int .i64 a∧q= .int .i64 b∧(dirT (x,y,z) n)[k]? =some (a,b,n)∧a≠b∧a<N∧b<N∧Gr wr.heap.size wr wx∧wx.heap.size=wr.heap.size)
     case first=>
      obtain ⟨u0,u1,u2,_⟩:=HVB.out.three
      rcases(show k=0∨k=1∨k=2 by omega)with rfl|rfl|rfl
      ·simp only [show((0:Nat):Int)=0 from rfl]
       refine wp_region_held_drew (S:=(fun w'=>w'.cell? ⟨tb,0,none⟩=some (.int .i64 (x:Int))∧w'.cell? ⟨tb,1,none⟩=some (.int .i64 (y:Int))∧w'.cell? ⟨tb,2,none⟩=some (.int .i64 (z:Int)))) (by kernel_rfl) ?_ (fun hHeld=>?_)
       ·simp [go_sem, *]
       refine tq 0 26 (.int .i64 0) ?_
       refine tq 1 27 (.pointer (some ⟨tb,0,none⟩)) ?_
       refine tq 2 28 (.int .i64 (x:Int)) ?_
       refine tq 3 29 (.int .i64 0) ?_
       refine tq 4 30 (.int .i64 1) ?_
       refine tq 5 31 (.int .i64 1) ?_
       refine tq 6 32 (.pointer (some ⟨tb,1,none⟩)) ?_
       refine tq 7 33 (.int .i64 (y:Int)) ?_
       refine tq 8 7 (.int .i64 (x:Int)) ?_
       refine tq 9 8 (.int .i64 (y:Int)) ?_
       refine wpAnyH_done (by kernel_rfl) ?_ _
       go_wp2_with fail
       go_meet
       exact⟨x,y,rfl,rfl,rfl,by omega,g1,g2,by exact gzz,by simp⟩
      ·simp only [show((1:Nat):Int)=1 from rfl]
       refine wp_region_held_drew (S:=(fun w'=>w'.cell? ⟨tb,0,none⟩=some (.int .i64 (x:Int))∧w'.cell? ⟨tb,1,none⟩=some (.int .i64 (y:Int))∧w'.cell? ⟨tb,2,none⟩=some (.int .i64 (z:Int)))) (by kernel_rfl) ?_ (fun hHeld=>?_)
       ·simp [go_sem, *]
       refine tq 0 26 (.int .i64 1) ?_
       refine tq 1 27 (.pointer (some ⟨tb,1,none⟩)) ?_
       refine tq 2 28 (.int .i64 (y:Int)) ?_
       refine tq 3 29 (.int .i64 1) ?_
       refine tq 4 30 (.int .i64 2) ?_
       refine tq 5 31 (.int .i64 2) ?_
       refine tq 6 32 (.pointer (some ⟨tb,2,none⟩)) ?_
       refine tq 7 33 (.int .i64 (z:Int)) ?_
       refine tq 8 7 (.int .i64 (y:Int)) ?_
       refine tq 9 8 (.int .i64 (z:Int)) ?_
       refine wpAnyH_done (by kernel_rfl) ?_ _
       go_wp2_with fail
       go_meet
       exact⟨y,z,rfl,rfl,rfl,by omega,g2,g3,by exact gzz,by simp⟩
      ·simp only [show((2:Nat):Int)=2 from rfl]
       refine wp_region_held_drew (S:=(fun w'=>w'.cell? ⟨tb,0,none⟩=some (.int .i64 (x:Int))∧w'.cell? ⟨tb,1,none⟩=some (.int .i64 (y:Int))∧w'.cell? ⟨tb,2,none⟩=some (.int .i64 (z:Int)))) (by kernel_rfl) ?_ (fun hHeld=>?_)
       ·simp [go_sem, *]
       refine tq 0 26 (.int .i64 2) ?_
       refine tq 1 27 (.pointer (some ⟨tb,2,none⟩)) ?_
       refine tq 2 28 (.int .i64 (z:Int)) ?_
       refine tq 3 29 (.int .i64 2) ?_
       refine tq 4 30 (.int .i64 3) ?_
       refine tq 5 31 (.int .i64 0) ?_
       refine tq 6 32 (.pointer (some ⟨tb,0,none⟩)) ?_
       refine tq 7 33 (.int .i64 (x:Int)) ?_
       refine tq 8 7 (.int .i64 (z:Int)) ?_
       refine tq 9 8 (.int .i64 (x:Int)) ?_
       refine wpAnyH_done (by kernel_rfl) ?_ _
       go_wp2_with fail
       go_meet
       exact⟨z,x,rfl,rfl,rfl,by omega,g3,g1,by exact gzz,by simp⟩
     case rest=>
      obtain ⟨wb,hwb⟩:∃q,q=wc:=⟨_,rfl⟩
      subst hwb
      obtain ⟨a,b,rfl,rfl,hd,hne,ha,hb,hgb,hszb⟩:=hcut
      replace HMI:=Lh (HMI.out.gr hgb HMI.out.lt)
      replace HVB:=Lh (HVB.out.gr hgb hvl)
      replace HG3:=Lh (HG3.out.trans (hgb.mono hsz3))
      replace hvl:tb<wb.heap.size:=by omega
      replace hsz3:w.heap.size≤wb.heap.size:=by omega
      clear hgb hszb
      have hfl:=fold_take (f:=estep) (b:=stE l n) hd
      have hlen:(((dirT (x,y,z) n).take k).foldl estep (stE l n)).length≤3*n+3:=by have h1:=fold_len ((dirT (x,y,z) n).take k) (stE l n);have h2:=stE_len l n;simp at h1;omega
      generalize ((dirT (x,y,z) n).take k).foldl estep (stE l n)=E at *
      have hkey:=keyOf_E (i:=min a b) (j:=max a b) (by omega) (by omega)
      rcases hf:E.findIdx? (keyE a b)with _|j
      ·by_cases hab:a<b
       ·have hab':(a:Int)<b:=by omega
        have hm1:min a b=a:=by omega
        have hm2:max a b=b:=by omega
        have hi1:min (a:Int) b=a:=by omega
        have hi2:max (a:Int) b=b:=by omega
        have hnl:decide ((a:Int)<b)=true:=by simp;omega
        have hng:decide ((b:Int)<a)=false:=by simp;omega
        have hmiss:=key_missed hf
        rw [hm1,hm2]at hkey hmiss
        have hU:updE a b n (newE a b)=⟨(a:Int),(b:Int),(n:Int),-1⟩:=by simp [updE,newE,hm1,hm2,hab]
        go_wp2_with (first
         | (at_lookup;refine wpM_look _ (b:=w.heap.size) (.tuple #[eV ⟨0,0,0,0⟩,.bool false]) true rfl _ _ rfl rfl (MI.look_none true (HMI.out.gr (B:=wb.heap.size) (by exact gzz) HMI.out.lt) keyed_E under_E (zeroEdge _) (key:=endK (a:Int) (b:Int)) hkey hmiss) ?_)
         | (at_mapUpdate;refine wpM_upd _ (b:=w.heap.size) rfl _ _ _ rfl rfl (MI.upd_new (HMI.out.gr (B:=wb.heap.size) (by exact gzz) HMI.out.lt) keyed_E under_E (key:=endK (a:Int) (b:Int)) (val:=eV ⟨(a:Int),(b:Int),(n:Int),-1⟩) hkey hmiss (by simp [maxLen];omega)) ?_;rintro w2 ⟨hmi2,hkp2,hsz2⟩;(try simp at hsz2);have HMI2:=Lh hmi2;have HKP2:=Lh hkp2;clear hmi2 hkp2))
        go_roundw
        case rel=>exact⟨k+1,by omega,by go_num,Lh (by rw [hfl,estep_none hf,hU];show MI _ _ _ _ (List.map _ _);rw [List.map_append];exact HMI2.out),Lh ((HVB.out.gr (show Gr wb.heap.size wb _ from by exact gzz) hvl).kp HKP2.out (by simp;omega)),Lh ((show Gr w.heap.size w _ from by exact gcc HG3 gzz).trans (HKP2.out.gr (fun b e=>by cases e;exact Nat.le_refl _) (by simp;omega)))⟩
        case measure=>simp [intOf];omega
       ·have hab':(b:Int)<a:=by omega
        have hm1:min a b=b:=by omega
        have hm2:max a b=a:=by omega
        have hi1:min (a:Int) b=b:=by omega
        have hi2:max (a:Int) b=a:=by omega
        have hnl:decide ((a:Int)<b)=false:=by simp;omega
        have hng:decide ((b:Int)<a)=true:=by simp;omega
        have hmiss:=key_missed hf
        rw [hm1,hm2]at hkey hmiss
        have hU:updE a b n (newE a b)=⟨(b:Int),(a:Int),-1,(n:Int)⟩:=by simp [updE,newE,hm1,hm2,hab]
        go_wp2_with (first
         | (at_lookup;refine wpM_look _ (b:=w.heap.size) (.tuple #[eV ⟨0,0,0,0⟩,.bool false]) true rfl _ _ rfl rfl (MI.look_none true (HMI.out.gr (B:=wb.heap.size) (by exact gzz) HMI.out.lt) keyed_E under_E (zeroEdge _) (key:=endK (b:Int) (a:Int)) hkey hmiss) ?_)
         | (at_mapUpdate;refine wpM_upd _ (b:=w.heap.size) rfl _ _ _ rfl rfl (MI.upd_new (HMI.out.gr (B:=wb.heap.size) (by exact gzz) HMI.out.lt) keyed_E under_E (key:=endK (b:Int) (a:Int)) (val:=eV ⟨(b:Int),(a:Int),-1,(n:Int)⟩) hkey hmiss (by simp [maxLen];omega)) ?_;rintro w2 ⟨hmi2,hkp2,hsz2⟩;(try simp at hsz2);have HMI2:=Lh hmi2;have HKP2:=Lh hkp2;clear hmi2 hkp2))
        go_roundw
        case rel=>exact⟨k+1,by omega,by go_num,Lh (by rw [hfl,estep_none hf,hU];show MI _ _ _ _ (List.map _ _);rw [List.map_append];exact HMI2.out),Lh ((HVB.out.gr (show Gr wb.heap.size wb _ from by exact gzz) hvl).kp HKP2.out (by simp;omega)),Lh ((show Gr w.heap.size w _ from by exact gcc HG3 gzz).trans (HKP2.out.gr (fun b e=>by cases e;exact Nat.le_refl _) (by simp;omega)))⟩
        case measure=>simp [intOf];omega
      ·by_cases hab:a<b
       ·have hab':(a:Int)<b:=by omega
        have hm1:min a b=a:=by omega
        have hm2:max a b=b:=by omega
        have hi1:min (a:Int) b=a:=by omega
        have hi2:max (a:Int) b=b:=by omega
        have hnl:decide ((a:Int)<b)=true:=by simp;omega
        have hng:decide ((b:Int)<a)=false:=by simp;omega
        obtain ⟨⟨ea,eb,el,er⟩,he,h1,h2⟩:=key_found hf
        dsimp only at h1 h2
        rw [hm1]at h1
        rw [hm2]at h2
        subst h1 h2
        rw [hm1,hm2]at hkey
        have hget:(E.map eE)[j]? =some (eE ⟨(a:Int),(b:Int),el,er⟩):=by rw [List.getElem?_map,he];rfl
        have hmem:=List.mem_of_getElem? hget
        by_cases hno:el= -1
        ·subst hno
         have hU:updE a b n (⟨(a:Int),(b:Int),-1,er⟩)=⟨(a:Int),(b:Int),(n:Int),er⟩:=by simp [updE,newE,hm1,hm2,hab]
         go_wp2_with (first
          | (at_lookup;refine wpM_look _ (b:=w.heap.size) (.tuple #[eV ⟨(a:Int),(b:Int),-1,er⟩,.bool true]) true rfl _ _ rfl rfl (MI.look_some true (HMI.out.gr (B:=wb.heap.size) (by exact gzz) HMI.out.lt) keyed_E under_E (zeroEdge _) (key:=endK (a:Int) (b:Int)) (v:=eV ⟨(a:Int),(b:Int),-1,er⟩) hkey hmem) ?_)
          | (at_mapUpdate;refine wpM_upd _ (b:=w.heap.size) rfl _ _ _ rfl rfl (MI.upd_old (HMI.out.gr (B:=wb.heap.size) (by exact gzz) HMI.out.lt) keyed_E under_E (key:=endK (a:Int) (b:Int)) (val:=eV ⟨(a:Int),(b:Int),(n:Int),er⟩) (j:=j) (u:=_) hkey hget (by simp [maxLen];omega)) ?_;rintro w2 ⟨hmi2,hkp2,hsz2⟩;(try simp at hsz2);have HMI2:=Lh hmi2;have HKP2:=Lh hkp2;clear hmi2 hkp2))
         go_roundw
         case rel=>exact⟨k+1,by omega,by go_num,Lh (by rw [hfl,estep_some hf he,hU];show MI _ _ _ _ (List.map _ _);rw [List.map_set];exact HMI2.out),Lh ((HVB.out.gr (show Gr wb.heap.size wb _ from by exact gzz) hvl).kp HKP2.out (by simp;omega)),Lh ((show Gr w.heap.size w _ from by exact gcc HG3 gzz).trans (HKP2.out.gr (fun b e=>by cases e;exact Nat.le_refl _) (by simp;omega)))⟩
         case measure=>simp [intOf];omega
        ·have hno':(el == -1)=false:=by simpa using hno
         have hU:updE a b n (⟨(a:Int),(b:Int),el,er⟩)=⟨(a:Int),(b:Int),el,er⟩:=by simp [updE,newE,hm1,hm2,hab,hno]
         go_wp2_with (first
          | (at_lookup;refine wpM_look _ (b:=w.heap.size) (.tuple #[eV ⟨(a:Int),(b:Int),el,er⟩,.bool true]) true rfl _ _ rfl rfl (MI.look_some true (HMI.out.gr (B:=wb.heap.size) (by exact gzz) HMI.out.lt) keyed_E under_E (zeroEdge _) (key:=endK (a:Int) (b:Int)) (v:=eV ⟨(a:Int),(b:Int),el,er⟩) hkey hmem) ?_)
          | (at_mapUpdate;refine wpM_upd _ (b:=w.heap.size) rfl _ _ _ rfl rfl (MI.upd_old (HMI.out.gr (B:=wb.heap.size) (by exact gzz) HMI.out.lt) keyed_E under_E (key:=endK (a:Int) (b:Int)) (val:=eV ⟨(a:Int),(b:Int),el,er⟩) (j:=j) (u:=_) hkey hget (by simp [maxLen];omega)) ?_;rintro w2 ⟨hmi2,hkp2,hsz2⟩;(try simp at hsz2);have HMI2:=Lh hmi2;have HKP2:=Lh hkp2;clear hmi2 hkp2))
         go_roundw
         case rel=>exact⟨k+1,by omega,by go_num,Lh (by rw [hfl,estep_some hf he,hU];show MI _ _ _ _ (List.map _ _);rw [List.map_set];exact HMI2.out),Lh ((HVB.out.gr (show Gr wb.heap.size wb _ from by exact gzz) hvl).kp HKP2.out (by simp;omega)),Lh ((show Gr w.heap.size w _ from by exact gcc HG3 gzz).trans (HKP2.out.gr (fun b e=>by cases e;exact Nat.le_refl _) (by simp;omega)))⟩
         case measure=>simp [intOf];omega
       ·have hab':(b:Int)<a:=by omega
        have hm1:min a b=b:=by omega
        have hm2:max a b=a:=by omega
        have hi1:min (a:Int) b=b:=by omega
        have hi2:max (a:Int) b=a:=by omega
        have hnl:decide ((a:Int)<b)=false:=by simp;omega
        have hng:decide ((b:Int)<a)=true:=by simp;omega
        obtain ⟨⟨ea,eb,el,er⟩,he,h1,h2⟩:=key_found hf
        dsimp only at h1 h2
        rw [hm1]at h1
        rw [hm2]at h2
        subst h1 h2
        rw [hm1,hm2]at hkey
        have hget:(E.map eE)[j]? =some (eE ⟨(b:Int),(a:Int),el,er⟩):=by rw [List.getElem?_map,he];rfl
        have hmem:=List.mem_of_getElem? hget
        by_cases hno:er= -1
        ·subst hno
         have hU:updE a b n (⟨(b:Int),(a:Int),el,-1⟩)=⟨(b:Int),(a:Int),el,(n:Int)⟩:=by simp [updE,newE,hm1,hm2,hab]
         go_wp2_with (first
          | (at_lookup;refine wpM_look _ (b:=w.heap.size) (.tuple #[eV ⟨(b:Int),(a:Int),el,-1⟩,.bool true]) true rfl _ _ rfl rfl (MI.look_some true (HMI.out.gr (B:=wb.heap.size) (by exact gzz) HMI.out.lt) keyed_E under_E (zeroEdge _) (key:=endK (b:Int) (a:Int)) (v:=eV ⟨(b:Int),(a:Int),el,-1⟩) hkey hmem) ?_)
          | (at_mapUpdate;refine wpM_upd _ (b:=w.heap.size) rfl _ _ _ rfl rfl (MI.upd_old (HMI.out.gr (B:=wb.heap.size) (by exact gzz) HMI.out.lt) keyed_E under_E (key:=endK (b:Int) (a:Int)) (val:=eV ⟨(b:Int),(a:Int),el,(n:Int)⟩) (j:=j) (u:=_) hkey hget (by simp [maxLen];omega)) ?_;rintro w2 ⟨hmi2,hkp2,hsz2⟩;(try simp at hsz2);have HMI2:=Lh hmi2;have HKP2:=Lh hkp2;clear hmi2 hkp2))
         go_roundw
         case rel=>exact⟨k+1,by omega,by go_num,Lh (by rw [hfl,estep_some hf he,hU];show MI _ _ _ _ (List.map _ _);rw [List.map_set];exact HMI2.out),Lh ((HVB.out.gr (show Gr wb.heap.size wb _ from by exact gzz) hvl).kp HKP2.out (by simp;omega)),Lh ((show Gr w.heap.size w _ from by exact gcc HG3 gzz).trans (HKP2.out.gr (fun b e=>by cases e;exact Nat.le_refl _) (by simp;omega)))⟩
         case measure=>simp [intOf];omega
        ·have hno':(er == -1)=false:=by simpa using hno
         have hU:updE a b n (⟨(b:Int),(a:Int),el,er⟩)=⟨(b:Int),(a:Int),el,er⟩:=by simp [updE,newE,hm1,hm2,hab,hno]
         go_wp2_with (first
          | (at_lookup;refine wpM_look _ (b:=w.heap.size) (.tuple #[eV ⟨(b:Int),(a:Int),el,er⟩,.bool true]) true rfl _ _ rfl rfl (MI.look_some true (HMI.out.gr (B:=wb.heap.size) (by exact gzz) HMI.out.lt) keyed_E under_E (zeroEdge _) (key:=endK (b:Int) (a:Int)) (v:=eV ⟨(b:Int),(a:Int),el,er⟩) hkey hmem) ?_)
          | (at_mapUpdate;refine wpM_upd _ (b:=w.heap.size) rfl _ _ _ rfl rfl (MI.upd_old (HMI.out.gr (B:=wb.heap.size) (by exact gzz) HMI.out.lt) keyed_E under_E (key:=endK (b:Int) (a:Int)) (val:=eV ⟨(b:Int),(a:Int),el,er⟩) (j:=j) (u:=_) hkey hget (by simp [maxLen];omega)) ?_;rintro w2 ⟨hmi2,hkp2,hsz2⟩;(try simp at hsz2);have HMI2:=Lh hmi2;have HKP2:=Lh hkp2;clear hmi2 hkp2))
         go_roundw
         case rel=>exact⟨k+1,by omega,by go_num,Lh (by rw [hfl,estep_some hf he,hU];show MI _ _ _ _ (List.map _ _);rw [List.map_set];exact HMI2.out),Lh ((HVB.out.gr (show Gr wb.heap.size wb _ from by exact gzz) hvl).kp HKP2.out (by simp;omega)),Lh ((show Gr w.heap.size w _ from by exact gcc HG3 gzz).trans (HKP2.out.gr (fun b e=>by cases e;exact Nat.le_refl _) (by simp;omega)))⟩
         case measure=>simp [intOf];omega
    ·have hk0:k=3:=by omega
     subst hk0
     go_wp2
     go_roundw
     case rel=>exact⟨n+1,by omega,by go_num,Lh (by rw [stE_succ (by rw [List.getElem?_eq_getElem hlt,ht])];exact HMI.out),HG3⟩
     case measure=>simp [intOf];omega
  ·have hnl:n=l.length:=by omega
   subst hnl
   have hE1:=stE_len l l.length
   have hE2:=stE_pos hne0
   obtain ⟨E,hE⟩:∃E,stE l l.length=E:=⟨_,rfl⟩
   rw [hE]at HMI1 hE1 hE2
   replace hE:=Lh hE
   have HMI6:=Lh (show MIE wr w.heap.size E from HMI1.out)
   clear HMI1
   have hmk:∀W:World,(Instr.makeSlice 41 (.int .i64 0) (.int .i64 (E.length:Int))).run Tryz.prog W= .ok (.slice (some ⟨W.heap.size,0,none⟩) 0 E.length) (W.alloc (.cells (madeCells (eV ⟨0,0,0,0⟩).cells (E.length*4)) 44)):=fun W=>by
    have h:=run_make_rowN 41 44 i0 _ Tryz.underlying41 HI.out.1 HI.out.2.1 .i64 .i64 0 E.length (by omega) (by rw [HI.out.2.2.2];omega) (by omega) W
    rw [HI.out.2.2.1]at h
    exact h
   go_wp2_with (first
    | (at_len;refine wpM_len _ HMI6.out under_E rfl _ rfl rfl ?_)
    | (at_range;(refine wpM_range _ (HMI6.out.alloc _) under_E rfl _ rfl rfl ?_;intro w3 hri3 hkp3 hsz3;rw [show ∀o,(wr.alloc o).heap.size=wr.heap.size+1 from fun o=>by simp]at hri3;simp at hsz3;have HRI3:=Lh hri3;have HKP3:=Lh hkp3;clear hri3 hkp3)))
   simp only [show ∀o,(wr.alloc o).heap.size=wr.heap.size+1 from fun o=>by simp,Act.put,List.setIfInBounds_toArray,List.set_cons_zero,List.set_cons_succ]
   have HS3:=Lh (show SL eC 4 44 w3 wr.heap.size (.slice (some ⟨wr.heap.size,0,none⟩) 0 E.length) []from HKP3.out.sl (SL.made wr E.length (by simp [madeCells]) (by simp [maxLen];omega)) (fun _ _=>by simp))
   have HG3:=Lh (show Gr w.heap.size w w3 from(show Gr w.heap.size w (wr.alloc _)from by exact gcc HG1 gzz).trans (HKP3.out.gr (fun b e=>by cases e) (by simp;omega)))
   clear HKP3 HMI6 HG1
   generalize wr.heap.size=sb at *
   clear hsz1
   go_loopw [12] (fun p wr=> ∃acc left:List Edg,Hid (SL eC 4 44 wr sb p acc)∧Hid (RI Tryz.prog kE wr w.heap.size (sb+1) (E.map eE) (left.map eE))∧Hid ((acc++left).Perm E)∧p.ownBlock≠some (sb+1)∧Hid (Gr w.heap.size w wr)) (fun p _=>E.length - slLen p)
   case atStart=>exact⟨[],E,HS3,HRI3,Lh (List.Perm.refl _),by simp [Value.ownBlock],HG3⟩
   case round=>
    clear HS3 HRI3 HG3 hsz3 hmm
    obtain ⟨acc,left,HS,HRI,HPM,hob,HG⟩:=hrel
    have hsr:=HG.out.size
    have hrl:=HRI.out.lt
    obtain ⟨pa,pc,rfl⟩:=HS.out.at
    have hlen:acc.length+left.length=E.length:=by have h:=HPM.out.length_eq;simpa using h
    go_wp2_with (at_next;refine wpE_next _ HRI.out rfl _ rfl rfl (fun hl=>?_) (fun e0 A C w3 hl HRI3 HKP3 hsz3 hent=>?_))
    ·have hl0:left= []:=hl.out
     subst hl0
     refine Lh ?_
     try simp only [pS]
     go_wp2_with fail
     have HP:=Lh (show acc.Perm E from by simpa using HPM.out)
     obtain ⟨g',cap',e1,_,_,_,hsh',_⟩:=HS.out.block (by intro e;rw [e]at hlen;simp at hlen;omega)
     cases e1
     have hgl:=hsh'.lt
     clear hsh'
     refine(sort_Edge acc sb g' _ wr HS.out (by simp at hlen;omega)).mono ?_
     rintro e w4 ⟨rfl,l',hp',hs',hS4,hg4⟩
     have HPS:=Lh (And.intro (hp'.trans HP.out) hs')
     have HS4:=Lh hS4
     have HG4:=Lh hg4
     have hsz4:=hg4.size
     clear hS4 hg4 hs' hp'
     go_wp2_with fail
     refine(clip_Edge l' _ sb w4 HS4.out.sr).mono ?_
     rintro e w5 ⟨v5,rfl,hS5,hg5⟩
     have HS5:=Lh (And.intro hS5 hg5)
     clear hS5 hg5
     go_wp2
     go_ret
     exact⟨v5,rfl,l',HS5.out.1.mono (by omega),hE.out ▸ HPS.out.1,HPS.out.2,(HG.out.trans (HG4.out.mono (by omega))).trans (HS5.out.2.mono (by omega))⟩
    ·refine Lh ?_
     try simp only [pS]
     go_wp2_with (at_builtin;refine wpList_appS _ rfl _ _ 41 rfl sb i0 _ 32 Tryz.underlying41 HI.out.1 HI.out.2.1 HI.out.2.2.1 HI.out.2.2.2 rfl (by decide) eC_len eC_one _ acc rfl ((HKP3.out.sl HS.out (fun g hg e1=>hob (hg.trans e1))).gr (by exact gzz)) (w3.heap.size+1) _ [e0] 1 rfl rfl (RC.new1' (by simp) rfl) (by unfold maxLen;simp;omega) (by simp;omega) (by simp;omega) ?_;intro v' w4 hS4 hkp4 hown;have HS4:=Lh (And.intro hS4 (And.intro hkp4 hown));clear hS4 hkp4 hown)
     go_roundw
     case rel=>
      obtain ⟨hS4,hkp4,hown⟩:=HS4.out
      have hgw:Gr w3.heap.size w3 ((w3.alloc (.cells #[.int .i64 e0.a,.int .i64 e0.b,.int .i64 e0.l,.int .i64 e0.r] 44)).alloc (.cells #[.int .i64 e0.a,.int .i64 e0.b,.int .i64 e0.l,.int .i64 e0.r] 44)):=by exact gzz
      have hlt3:w.heap.size<w3.heap.size:=by omega
      have hlr3:sb+1<w3.heap.size:=by omega
      refine⟨acc++ [e0],A++C,Lh hS4,Lh ((HRI3.out.gr hgw hlt3 hlr3).kp hkp4 (fun e1=>?_) (fun e1=>hob e1.symm)),Lh ?_,?_,Lh ?_⟩
      ·have:=HS.out.own_ge e1.symm
       omega
      ·have h:=HPM.out
       rw [hl.out]at h
       refine List.Perm.trans ?_ h
       rw [List.append_assoc]
       exact List.Perm.append_left acc (show(e0 :: (A++C)).Perm (A++e0 :: C)from List.perm_middle.symm)
      ·rcases hown with e1|e1
       ·rw [e1];exact hob
       ·rw [e1];simp;omega
      ·exact((HG.out.trans (HKP3.out.gr (fun b e1=>by cases e1;omega) hsr)).trans (hgw.mono (by omega))).trans (hkp4.gr (fun b e1=>by have:=HS.out.own_ge e1;omega) (by simp;omega))
     case measure=>
      obtain ⟨hS4,_,_⟩:=HS4.out
      obtain ⟨pa4,pc4,rfl⟩:=hS4.at
      have h:=hl.out
      have h2:=congrArg List.length h
      simp [slLen]at h2 ⊢
      omega
end Go.Proofs.YtfgmdhjmgdccdaaGreat
namespace Go.Proofs.YtfgmdhjmgdccdaaGreat
open Go.RowKit Gus Go.Maps
theorem SR.off {α:Type} {enc:α→List Value} {k:Nat} {t:TypeId} {w:World} {B g n c:Nat} {l:List α} (h:SR enc k t w B (.slice (some ⟨g,0,none⟩) n c) l) {p:Addr} (hp:p.block≠g) (x:Value):SR enc k t (w.setCell p x) B (.slice (some ⟨g,0,none⟩) n c) l:=by
 rcases h with⟨h,_⟩|⟨g',cap,h1,h2,h3,h4,⟨N,h5⟩,h6⟩
 ·cases h
 ·injection h1 with e1 e2 e3
  cases e1
  refine .inr ⟨g,cap,by rw [e2,e3],h2,h3,h4,⟨N,h5.set p x⟩,fun j hj i u hu=>?_⟩
  have hb:(w.setCell p x).heap[g]? =w.heap[g]? :=Below.heap_setCell _ _ _ _ (by omega)
  exact(World.cell?_of_block (a:=⟨g,j*k+i,none⟩) hb).trans (h6 j hj i u hu)
end Go.Proofs.YtfgmdhjmgdccdaaGreat
namespace Go.Proofs.YtfgmdhjmgdccdaaGreat
open Go.RowKit Gus Go.Maps
noncomputable def kR:TypeId:=((Tryz.prog.underlying 186).bind fun| .map k _=>some k|_=>none).getD 0
theorem under_R:Tryz.prog.underlying 186=some (.map kR 3):=by kernel_rfl
theorem keyed_R:Keyed Tryz.prog kR:=Keyed.of_law (deep_law_laid (m:=9) (by kernel_rfl) (by omega) (of_decide_eq_true (by kernel_rfl)) (by kernel_rfl) (by kernel_rfl))
theorem keyOf_funR:(fun i j:Int=>keyOf Tryz.prog kR (.agg #[.int .i64 i,.int .i64 j]))=fun i j=>Option.map (fun ls=>Lit.string (keyBytes ls)) (Option.map List.flatten ([[Value.int .i64 i],[Value.int .i64 j]].mapM fun v=>Tryz.prog.keyLits 5 3 v)):=by kernel_rfl
theorem keyOf_R {i j:Nat} (hi:i<9223372036854775808) (hj:j<9223372036854775808):keyOf Tryz.prog kR (.agg #[.int .i64 (i:Int),.int .i64 (j:Int)])=some (klT i j):=by
 have h:=congrFun (congrFun keyOf_funR i) j
 simp only [List.mapM_cons,List.mapM_nil,keyLits_int 4 _ (wf_nat hi),keyLits_int 4 _ (wf_nat hj)]at h
 exact h
theorem wrap64_id {n:Int} (h1: -9223372036854775808≤n) (h2:n≤9223372036854775807):IntKind.i64.wrap n=n:=by
 have h3:(2:Int) ^ IntKind.bits .i64=18446744073709551616:=by decide
 have h4:(2:Int) ^ (IntKind.bits .i64 - 1)=9223372036854775808:=by decide
 have h5:IntKind.signed .i64=true:=rfl
 simp only [IntKind.wrap,h3,h4,h5,Bool.true_and,decide_eq_true_eq]
 split<;>omega
abbrev CE:=Int×Int×Int
abbrev eR (e:CE):Value×Value:=(endK e.1 e.2.1,.int .i64 e.2.2)
abbrev MIR (w:World) (b:Nat) (l:List CE):Prop:=MI Tryz.prog kR w b (l.map eR)
def keyC (a b:Nat) (c:CE):Bool:=c.1 == ((min a b:Nat):Int) && c.2.1 == ((max a b:Nat):Int)
def cstep (C:List CE) (d:DE):List CE:=match C.findIdx? (keyC d.1 d.2.1) with
 | some j=>match C[j]? with
  | some c=>C.set j (c.1,c.2.1,c.2.2+1)
  | none=>C
 | none=>C++ [(((min d.1 d.2.1:Nat):Int),((max d.1 d.2.1:Nat):Int),1)]
def stC (l:List Tri):Nat→List CE
 | 0=> []
 | n+1=>match l[n]? with
  | some t=>(dirT t n).foldl cstep (stC l n)
  | none=>stC l n
theorem stC_succ {l:List Tri} {n:Nat} {t:Tri} (h:l[n]? =some t):stC l (n+1)=(dirT t n).foldl cstep (stC l n):=by simp [stC,h]
theorem cstep_none {C:List CE} {a b t:Nat} (h:C.findIdx? (keyC a b)=none):cstep C (a,b,t)=C++ [(((min a b:Nat):Int),((max a b:Nat):Int),1)]:=by simp [cstep,h]
theorem cstep_some {C:List CE} {a b t j:Nat} {c:CE} (h:C.findIdx? (keyC a b)=some j) (hc:C[j]? =some c):cstep C (a,b,t)=C.set j (c.1,c.2.1,c.2.2+1):=by simp [cstep,h,hc]
theorem keyC_found {C:List CE} {a b j:Nat} (h:C.findIdx? (keyC a b)=some j):∃c,C[j]? =some c∧c.1=((min a b:Nat):Int)∧c.2.1=((max a b:Nat):Int):=by
 rw [List.findIdx?_eq_some_iff_getElem]at h
 obtain ⟨hj,hk,_⟩:=h
 refine⟨C[j],List.getElem?_eq_getElem hj,?_⟩
 simpa [keyC] using hk
theorem keyC_missed {C:List CE} {a b:Nat} (h:C.findIdx? (keyC a b)=none):∀p∈C.map eR,p.1≠endK ((min a b:Nat):Int) ((max a b:Nat):Int):=by
 rw [List.findIdx?_eq_none_iff]at h
 intro p hp e1
 obtain ⟨c,hc,rfl⟩:=List.mem_map.1 hp
 have:=h c hc
 simp [keyC,endK]at this e1
 exact this e1.1 e1.2
def Bnd (C:List CE) (m:Nat):Prop:=C.length≤m∧∀c∈C,0≤c.2.2∧c.2.2≤m
theorem cstep_bnd {C:List CE} {m:Nat} (h:Bnd C m) (d:DE):Bnd (cstep C d) (m+1):=by
 obtain ⟨h0,h⟩:=h
 unfold cstep
 split
 ·split
  ·rename_i c hc
   refine⟨by simp;omega,fun x hx=>?_⟩
   rcases List.mem_or_eq_of_mem_set hx with hx|rfl
   ·have:=h x hx;omega
   ·have:=h c (List.mem_of_getElem? hc);simp;omega
  ·exact⟨by omega,fun x hx=>by have:=h x hx;omega⟩
 ·refine⟨by simp;omega,fun x hx=>?_⟩
  simp only [List.mem_append,List.mem_singleton]at hx
  rcases hx with hx|rfl
  ·have:=h x hx;omega
  ·simp;omega
theorem foldC_bnd (D:List DE) {C:List CE} {m:Nat} (h:Bnd C m):Bnd (D.foldl cstep C) (m+D.length):=by
 induction D generalizing C m with
 | nil=>exact h
 | cons d D ih=>
  have:=ih (cstep_bnd h d)
  simpa [Nat.add_assoc,Nat.add_comm 1] using this
theorem Bnd.mono {C:List CE} {m n:Nat} (h:Bnd C m) (hn:m≤n):Bnd C n:=⟨by have:=h.1;omega,fun c hc=>by have:=h.2 c hc;omega⟩
theorem stC_bnd (l:List Tri) (n:Nat):Bnd (stC l n) (3*n):=by
 induction n with
 | zero=>exact⟨by simp [stC],by simp [stC]⟩
 | succ n ih=>
  simp only [stC]
  split
  ·exact(foldC_bnd _ ih).mono (by simp [dirT];omega)
  ·exact ih.mono (by omega)
def cntC (C:List CE) (a b:Int):Int:=match C.find? (fun c=>c.1 == a && c.2.1 == b) with
 | some c=>c.2.2
 | none=>0
def rimOf (C:List CE) (es:List Edg):List Tri:=(es.filter fun e=>cntC C e.a e.b == 1).map fun e=>(e.a.toNat,e.b.toNat,0)
theorem rimOf_succ {C:List CE} {es:List Edg} {j:Nat} {e:Edg} (h:es[j]? =some e):rimOf C (es.take (j+1))=rimOf C (es.take j)++(if cntC C e.a e.b=1 then [(e.a.toNat,e.b.toNat,0)]else []):=by
 unfold rimOf
 rw [List.take_add_one,h,List.filter_append,List.map_append]
 by_cases hc:cntC C e.a e.b=1
 ·simp [hc]
 ·simp [hc]
theorem rimOf_len (C:List CE) (es:List Edg):(rimOf C es).length≤es.length:=by
 unfold rimOf;rw [List.length_map];exact List.length_filter_le _ _
theorem cntC_look {C:List CE} {a b:Int} (hz:cntC C a b≠0∨∃c∈C,c.1=a∧c.2.1=b):(endK a b,Value.int .i64 (cntC C a b))∈C.map eR:=by
 unfold cntC at hz ⊢
 cases hf:C.find? (fun c=>c.1 == a && c.2.1 == b) with
 | none=>
  rw [hf]at hz
  rcases hz with h|⟨c,hc,h1,h2⟩
  ·exact absurd rfl h
  ·rw [List.find?_eq_none]at hf
   have:=hf c hc
   simp [h1,h2]at this
 | some c=>
  have h1:=List.find?_some hf
  have h2:=List.mem_of_find?_eq_some hf
  simp only [Bool.and_eq_true,beq_iff_eq]at h1
  exact List.mem_map.2 ⟨c,h2,by simp [eR,h1.1,h1.2]⟩
theorem cntC_zero {C:List CE} {a b:Int} (h:¬ ∃c∈C,c.1=a∧c.2.1=b):cntC C a b=0∧∀p∈C.map eR,p.1≠endK a b:=by
 constructor
 ·unfold cntC
  rw [List.find?_eq_none.2]
  intro c hc
  simp only [Bool.and_eq_true,beq_iff_eq]
  exact fun h1=>h ⟨c,hc,h1⟩
 ·intro p hp e1
  obtain ⟨c,hc,rfl⟩:=List.mem_map.1 hp
  simp [endK]at e1
  exact h ⟨c,hc,e1⟩
theorem RC.fE {w:World} {g:Nat} {l:List Edg} (h:RC eC 4 w g l) {j:Nat} (hj:j<l.length) {y:Edg} (hy:l[j]=y):w.cell? ⟨g,j*4,none⟩=some (.int .i64 y.a)∧w.cell? ⟨g,j*4+1,none⟩=some (.int .i64 y.b)∧w.cell? ⟨g,j*4+2,none⟩=some (.int .i64 y.l)∧w.cell? ⟨g,j*4+3,none⟩=some (.int .i64 y.r):=by
 subst hy
 exact⟨h j hj 0 _ rfl,h j hj 1 _ rfl,h j hj 2 _ rfl,h j hj 3 _ rfl⟩
def Ends (N:Nat) (E:List Edg):Prop:= ∀e∈E,∃i j:Nat,e.a=i∧e.b=j∧i<N∧j<N
theorem estep_ends {N:Nat} {E:List Edg} {d:DE} (h:Ends N E) (h1:d.1<N) (h2:d.2.1<N):Ends N (estep E d):=by
 obtain ⟨a,b,t⟩:=d
 dsimp only at h1 h2
 rcases hf:E.findIdx? (keyE a b)with _|j
 ·rw [estep_none hf]
  intro e he
  simp only [List.mem_append,List.mem_singleton]at he
  rcases he with he|rfl
  ·exact h e he
  ·rw [(updE_key a b t _).1,(updE_key a b t _).2]
   exact⟨min a b,max a b,rfl,rfl,by omega,by omega⟩
 ·obtain ⟨e,he,h3,h4⟩:=key_found hf
  rw [estep_some hf he]
  intro x hx
  rcases List.mem_or_eq_of_mem_set hx with hx|rfl
  ·exact h x hx
  ·rw [(updE_key a b t e).1,(updE_key a b t e).2]
   exact h e (List.mem_of_getElem? he)
theorem stE_ends {N:Nat} {l:List Tri} (hl:∀t∈l,goodT N t) (n:Nat):Ends N (stE l n):=by
 induction n with
 | zero=>intro e he;simp [stE]at he
 | succ n ih=>
  simp only [stE]
  split
  ·rename_i t ht
   obtain ⟨g1,g2,g3,_⟩:=hl t (List.mem_of_getElem? ht)
   simp only [dirT,List.foldl_cons,List.foldl_nil]
   exact estep_ends (estep_ends (estep_ends ih g1 g2) g2 g3) g3 g1
  ·exact ih
end Go.Proofs.YtfgmdhjmgdccdaaGreat
