/-
  Part 37 of the proof: FluC FluD.
-/
import Derived.Test.YtfgmdhjmgdccdaaGreatJ35
import Derived.Test.YtfgmdhjmgdccdaaGreatJ28
import Derived.Test.YtfgmdhjmgdccdaaGreatJ17
set_option linter.unusedSimpArgs false
set_option linter.unusedVariables false
set_option maxHeartbeats 8000000
namespace Go.Proofs.YtfgmdhjmgdccdaaGreat
open Go.RowKit Gus Go.Maps
set_option maxRecDepth 20000 in
theorem fCheck_raw (vp vt vs:Value) (av:Option Addr) (n cv:Nat) (es:List Edg) (w:World) (hC:∀W,Gr w.heap.size w W→Calls Tryz.prog 56 #[.agg #[vp,vt,vs]] W (Ret W (.int .i64 0))) (hE:∀W,Gr w.heap.size w W→Calls Tryz.prog 7 #[.agg #[vp,vt,vs]] W (fun e w'=> ∃v',e= .returned v'∧SR eC 4 44 w' W.heap.size v' es∧Gr W.heap.size W w')) (hn:n=es.length):
  Calls Tryz.prog 32 #[.agg #[vp,vt,vs,.slice av n cv]] w (Ret w (.int .i64 0)):=by
 have HC:=Lh hC
 have HE:=Lh hE
 have hn1:(n:Int)=(es.length:Int):=by omega
 clear hC hE
 go_enter Tryz.func32,Tryz.ntmps32
 go_wp2_with fail
 (refine rtu (HC.out _ (by exact gzz)) fun w1 hsz1 hl1 hc1 hf1 HG1=>?_;(try simp at hsz1))
 go_upto_region 4 with fail
 refine wp_region_held_drew (S:=(fun w'=>w'.cell? ⟨w.heap.size,0,none⟩=some (vp)∧w'.cell? ⟨w.heap.size,1,none⟩=some (vt)∧w'.cell? ⟨w.heap.size,2,none⟩=some (vs)∧w'.cell? ⟨w.heap.size,3,none⟩=some (.slice av n cv))) (by kernel_rfl) ?_ (fun hHeld=>?_)
 ·simp [go_sem, *]
 refine tq 0 10 (.pointer (some ⟨w.heap.size,3,none⟩)) ?_
 refine tq 1 11 (.slice av n cv) ?_
 refine tq 2 12 (.int .i64 (n:Int)) ?_
 refine tq 3 13 (.pointer (some ⟨w.heap.size,0,none⟩)) ?_
 refine tq 4 14 (.agg #[vp,vt,vs]) ?_
 refine rd 5 (fun K hK=>?_)
 go_simp
 (refine rtv (HE.out _ (by exact gcc HG1 gzz)) fun w2 v2 HS2 hsz2 hl2 hc2 hf2 HG2=>?_;(try simp at hsz2))
 obtain ⟨ae,ce,rfl⟩:=HS2.out.at
 refine kO hK fun hQ1=>?_
 clear hK K hHeld
 refine tq 6 16 (.int .i64 (es.length:Int)) ?_
 refine tq 7 17 (.bool false) ?_
 refine wpAnyH_done (by kernel_rfl) ?_ _
 go_wp2
 go_ret
 exact⟨rfl,by exact gcc HG2 (gcc HG1 gzz)⟩
set_option maxRecDepth 20000 in
theorem fpair_1 (p:Pt) (w:World):Calls Tryz.prog 10 #[pV p] w (Ret w (f2V p.x p.y)):=by
 go_enter Tryz.func10,Tryz.ntmps10
 go_wp2
 refine ret_row (g:=w.heap.size+1) (cs:=f2C p.x p.y) Tryz.results10 rfl ?_ Tryz.underlying61 rfl info_F2 rfl ⟨rfl,?_⟩
 ·exact vbb
 ·exact gzz
set_option maxRecDepth 20000 in
theorem clipV_Q (a:Option Addr) (n c:Nat) (w:World) (h1:n≤c) (_h2:c≤9223372036854775807):Calls Tryz.prog 40 #[.slice a n c] w (Ret w (.slice a n n)):=by
 go_enter Tryz.func40,Tryz.ntmps40
 go_wp2
 go_ret
 exact⟨rfl,Gr.refl _ _⟩
set_option maxRecDepth 20000 in
theorem flpair_1 (p:Pt) (w:World):Calls Tryz.prog 59 #[pV p] w (Ret w (f2V p.x p.y)):=by
 go_enter Tryz.func59,Tryz.ntmps59
 go_wp2
 refine ret_row (g:=w.heap.size+1) (cs:=f2C p.x p.y) Tryz.results59 rfl ?_ Tryz.underlying61 rfl info_F2 rfl ⟨rfl,?_⟩
 ·exact vbb
 ·exact gzz
end Go.Proofs.YtfgmdhjmgdccdaaGreat
namespace Go.Proofs.YtfgmdhjmgdccdaaGreat
open Go.RowKit Gus Go.Maps
theorem info_bP3:(Tryz.prog.info? 99).map (fun i=>(i.zero,i.size,i.bytes))=some (some (.agg #[.int .i64 0,.int .i64 0,.int .i64 0,.int .i64 0,.int .i64 0,.int .i64 0]),6,48):=by kernel_rfl
set_option maxRecDepth 20000 in
theorem parts_raw (m:Msh) (es:List Edg) (vp vt vs:Value) (w:World) (hM:MS w 0 vp vt vs m) (hN:m.pts.length≤1000000) (hTn:m.tris.length≤1000) (hl:∀t∈m.tris,t.1<m.pts.length∧t.2.1<m.pts.length∧t.2.2<m.pts.length∧hasE es t.2.1 t.2.2∧hasE es t.2.2 t.1∧hasE es t.1 t.2.1) (he:es.length≤3000) (hes:Ends m.pts.length es) (hnd:es.Pairwise fun a b=> ¬(a.a=b.a∧a.b=b.b)) (hE:∀W,Gr w.heap.size w W→Calls Tryz.prog 7 #[.agg #[vp,vt,vs]] W (fun e w'=> ∃v',e= .returned v'∧SR eC 4 44 w' W.heap.size v' es∧Gr W.heap.size W w')):
  Calls Tryz.prog 34 #[.agg #[vp,vt,vs]] w (fun e w'=> ∃v,e= .returned v∧SR p3C 6 99 w' w.heap.size v (m.tris.map (partsT es))∧Gr w.heap.size w w'):=by
 have HE:=Lh hE
 have HM:=Lh hM
 obtain ⟨hMp,hMt,hMs⟩:=hM
 obtain ⟨ap,cp,rfl⟩:=hMp.at
 obtain ⟨at_,ct,rfl⟩:=hMt.at
 obtain ⟨as_,cs,rfl⟩:=hMs.at
 clear hMp hMt hMs hE
 have HL:=Lh hl
 have HES:=Lh hes
 have HND:=Lh hnd
 clear hl hes hnd
 have hmm:= @run_makeMap Tryz.prog
 obtain ⟨i0,hi,hz0,hz1,hz2⟩:=info_parts info_bP3
 obtain ⟨Z0,hZ0⟩:∃q,q=(List.replicate (m.tris.length*6) (Value.int .i64 0)).toArray:=⟨_,rfl⟩
 have hmk:∀W:World,(Instr.makeSlice 100 (.int .i64 (m.tris.length:Int)) (.int .i64 (m.tris.length:Int))).run Tryz.prog W= .ok (.slice (some ⟨W.heap.size,0,none⟩) m.tris.length m.tris.length) (W.alloc (.cells Z0 99)):=fun W=>by
  have h:=run_make_rowN 100 99 i0 _ Tryz.underlying100 hi hz0 .i64 .i64 m.tris.length m.tris.length (by omega) (by rw [hz2];omega) (by omega) W
  rw [hz1]at h
  rw [hZ0,←made6]
  exact h
 have HZ0:=Lh hZ0
 clear hZ0
 have HMK:=Lh hmk
 clear hi hz0 hz1 hz2 hmk
 go_enter Tryz.func34,Tryz.ntmps34
 go_wp2_with fail
 refine(HE.out _ (by exact gzz)).mono ?_
 rintro e w3 ⟨ve,rfl,hEd,hg3⟩
 have hsz3:=hg3.size
 (try simp at hsz3)
 have HX3:=Lh ((show VB ((w.alloc (.cells #[.slice ap m.pts.length cp,.slice at_ m.tris.length ct,.slice as_ m.sides.length cs] 35)).alloc (.map #[] 0)) (w.heap.size) [.slice ap m.pts.length cp,.slice at_ m.tris.length ct,.slice as_ m.sides.length cs]from by exact vbb).gr hg3 (by simp;omega))
 have HI3:=Lh (show MIP w3 (w.heap.size+1) 0 []from(MI.new' (w.alloc (.cells #[.slice ap m.pts.length cp,.slice at_ m.tris.length ct,.slice as_ m.sides.length cs] 35)) _ _ (by simp)).gr hg3 (by simp))
 have HD3:=Lh (show SR eC 4 44 w3 (w.heap.size+1+1) ve es from hEd.mono (by simp))
 have HG3:=Lh (show Gr w.heap.size w w3 from(show Gr w.heap.size w ((w.alloc (.cells #[.slice ap m.pts.length cp,.slice at_ m.tris.length ct,.slice as_ m.sides.length cs] 35)).alloc (.map #[] 0))from by exact gzz).trans (hg3.mono (by first|omega|(simp;done)|(simp;omega))))
 clear hg3 hEd hmm
 obtain ⟨ae,ce,rfl⟩:=HD3.out.at
 obtain ⟨mb,hmb⟩:∃q,w.heap.size+1=q:=⟨_,rfl⟩
 rw [hmb]at HI3 HD3 ⊢
 have hm0:w.heap.size<mb:=by omega
 have hm3:mb+1≤w3.heap.size:=by omega
 clear hmb hsz3
 go_wp2_with fail
 go_loopw [18] (fun s wr=> ∃i:Nat,i≤es.length∧s= .int .i64 i∧Hid (MIP wr mb 0 (es.take i))∧Hid (SR eC 4 44 wr (mb+1) (.slice ae es.length ce) es)∧Hid (VB wr w.heap.size [.slice ap m.pts.length cp,.slice at_ m.tris.length ct,.slice as_ m.sides.length cs])∧Hid (Gr w.heap.size w wr)∧mb+1≤wr.heap.size) (fun s _=>es.length - (intOf s).toNat)
 case atStart=>exact⟨0,Nat.zero_le _,rfl,by simpa using HI3,HD3,HX3,HG3,hm3⟩
 case round=>
  clear HI3 HD3 HX3 HG3 hm3
  obtain ⟨i,hi,rfl,HI,HD,HX,HG,hmr⟩:=hrel
  have hil:=HI.out.lt
  have hxl:=HX.out.lt
  by_cases hlt:i<es.length
  ·have q0:(i:Int)<(es.length:Int):=by omega
   obtain ⟨ed,hed⟩:∃x,es[i]=x:=⟨_,rfl⟩
   obtain ⟨p,q,hp,hq,hpN,hqN⟩:=HES.out ed (hed ▸ List.getElem_mem hlt)
   obtain ⟨ea,eb,el,er⟩:=ed
   dsimp only at hp hq
   subst hp hq
   have HMISS:=Lh (numP_miss (n:=0) (l:=es.take i) (a:=(p:Int)) (b:=(q:Int)) (fun e he hab=>by
    obtain ⟨j,hj,rfl⟩:=List.getElem_of_mem he
    simp at hj
    have h7:=List.pairwise_iff_getElem.1 HND.out j i (by omega) hlt (by omega)
    rw [hed]at h7
    exact h7 (by simpa [List.getElem_take] using hab)))
   obtain ⟨g,cap',e4,hgB,_,_,hsh,hR⟩:=HD.out.block (by intro e;rw [e]at hlt;simp at hlt)
   injection e4 with e4 _ e5
   subst e4 e5
   have hglt:=hsh.lt
   obtain ⟨u0,u1,u2,u3⟩:=hR.fE hlt hed
   clear hR hsh
   dsimp only at u0 u1 u2 u3
   have hnext2:Hid (numP 0 (es.take (i+1))=numP 0 (es.take i)++ [(endK p q,.int .i64 (i:Int))]):=Lh (by rw [List.take_add_one,List.getElem?_eq_getElem hlt,hed];simp only [Option.toList_some];rw [numP_snoc,List.length_take,Nat.min_eq_left (by omega),Nat.zero_add])
   clear hed
   go_upto_region 6 with fail
   have HEB5:=Lh (show VB (wr.alloc (.cells #[.int .i64 (p:Int),.int .i64 (q:Int),.int .i64 el,.int .i64 er] 44)) wr.heap.size [.int .i64 (p:Int),.int .i64 (q:Int),.int .i64 el,.int .i64 er]from by exact vbb)
   have HI5:=Lh (show MIP (wr.alloc (.cells #[.int .i64 (p:Int),.int .i64 (q:Int),.int .i64 el,.int .i64 er] 44)) mb 0 (es.take i)from HI.out.alloc _)
   have HG5:=Lh (show Gr wr.heap.size wr (wr.alloc (.cells #[.int .i64 (p:Int),.int .i64 (q:Int),.int .i64 el,.int .i64 er] 44))from by exact gzz)
   have hz5:(wr.alloc (.cells #[.int .i64 (p:Int),.int .i64 (q:Int),.int .i64 el,.int .i64 er] 44)).heap.size=wr.heap.size+1:=by simp
   generalize (wr.alloc (.cells #[.int .i64 (p:Int),.int .i64 (q:Int),.int .i64 el,.int .i64 er] 44))=w5 at *
   have c0:=HEB5.out.c 0 _ rfl
   have c1:=HEB5.out.c 1 _ rfl
   have hkey:keyOf Tryz.prog kP (endK p q)=some (klT p q):=keyOf_P (by omega) (by omega)
   obtain ⟨w6,hrun,hmi6,hkp6,hsz6⟩:=MI.upd_new (w:=w5) (val:= .int .i64 (i:Int)) HI5.out keyed_P under_P hkey HMISS.out (by rw [numP_len];simp [maxLen];omega)
   have HMI6:=Lh (show MIP w6 mb 0 (es.take (i+1))from by show MI _ _ _ _ (numP _ _);rw [hnext2.out];exact hmi6)
   have HKP:=Lh (show Kp wr w6 (some mb)from(HG5.out.kp _).trans hkp6)
   clear hkey hmi6 hkp6
   go_wp2
   go_roundw
   case rel=>exact⟨i+1,by omega,by go_num,HMI6,Lh (SR.kp HD.out HKP.out (fun g' e e2=>by have:=(SR.own_lt HD.out e).1;have:=Option.some.inj e2;omega)),Lh (HX.out.kp HKP.out (fun e=>by have:=Option.some.inj e;omega)),Lh (HG.out.trans (HKP.out.gr (fun b e=>by have:=Option.some.inj e;omega) (by omega))),by omega⟩
   case measure=>simp [intOf];omega
  ·have hin:i=es.length:=by omega
   subst hin
   rw [List.take_length]at HI
   have hmk:=HMK.out
   have x1:=HX.out.c 1 _ rfl
   have hR0:=rows_0 es m.tris
   have HS8:=Lh (show SL p3C 6 99 (wr.alloc (.cells Z0 99)) wr.heap.size (.slice (some ⟨wr.heap.size,0,none⟩) m.tris.length m.tris.length) (List.replicate m.tris.length fun _=>(0,0))from by rw [HZ0.out];exact SL.new' p3C_len _ (rows_flat0 _) rfl (Nat.le_refl _) (by simp [maxLen];omega) (by simp))
   have HI8:=Lh (show MIP (wr.alloc (.cells Z0 99)) mb 0 es from HI.out.alloc _)
   have HX8:=Lh (show VB (wr.alloc (.cells Z0 99)) w.heap.size [.slice ap m.pts.length cp,.slice at_ m.tris.length ct,.slice as_ m.sides.length cs]from HX.out.alloc _)
   have HG8:=Lh (show Gr w.heap.size w (wr.alloc (.cells Z0 99))from by exact gcc HG gzz)
   have hz8:(wr.alloc (.cells Z0 99)).heap.size=wr.heap.size+1:=by simp
   have hrb:mb<wr.heap.size:=by omega
   go_wp2_with fail
   clear hmk x1 HI HX HG HD
   generalize (wr.alloc (.cells Z0 99))=w8 at *
   generalize wr.heap.size=rb at *
   have x1:=HX8.out.c 1 _ rfl
   skip
   go_loopw [38] (fun s wr=> ∃(i:Nat) (R:List (Nat→Part)),i≤m.tris.length∧s= .int .i64 i∧Hid (Rows es m.tris R i 0)∧Hid (MIP wr mb 0 es)∧Hid (SL p3C 6 99 wr rb (.slice (some ⟨rb,0,none⟩) m.tris.length m.tris.length) R)∧Hid (Gr w.heap.size w wr)∧rb+1≤wr.heap.size) (fun s _=>m.tris.length - (intOf s).toNat)
   case atStart=>exact⟨0,_,Nat.zero_le _,rfl,Lh hR0,HI8,HS8,HG8,by omega⟩
   case round=>
    clear HI8 HS8 HG8 HX8 x1 hR0 hz8
    obtain ⟨i,R,hi,rfl,HRW,HI,HS,HG,hrr⟩:=hrel
    have hil:=HI.out.lt
    by_cases hlt:i<m.tris.length
    ·have q0:(i:Int)<(m.tris.length:Int):=by omega
     obtain ⟨t,ht⟩:∃t,m.tris[i]=t:=⟨_,rfl⟩
     obtain ⟨l1,l2,l3,e12,e20,e01⟩:=HL.out t (ht ▸ List.getElem_mem hlt)
     have HT:=Lh (show m.tris[i]? =some t from by rw [List.getElem?_eq_getElem hlt,ht])
     have HHE:=Lh (show ∀k,k<3→hasE es (corT t (k+1)) (corT t (k+2))from fun k hk=>by rcases(show k=0∨k=1∨k=2 by omega)with rfl|rfl|rfl;exact e12;exact e20;exact e01)
     have HCL:=Lh (show ∀k,corT t k<m.pts.length from fun k=>by unfold corT;split;exact l1;split;exact l2;exact l3)
     clear e12 e20 e01
     obtain ⟨gt,ct',e4,_,_,_,hsh,hR⟩:=HM.out.2.1.block (by intro e;rw [e]at hlt;simp at hlt)
     injection e4 with e4 _ e5
     subst e4 e5
     have hgl:=hsh.lt
     obtain ⟨u0,u1,u2⟩:=((hR.gr HG.out hgl).fTri hlt ht)
     have hgr:gt<wr.heap.size:=by have:=HG.out.size;omega
     clear hR hsh ht l1 l2 l3
     go_wp2_with fail
     have HB:=Lh (show VB (wr.alloc (.cells #[.int .i64 (t.1:Int),.int .i64 (t.2.1:Int),.int .i64 (t.2.2:Int)] 106)) wr.heap.size [.int .i64 (t.1:Int),.int .i64 (t.2.1:Int),.int .i64 (t.2.2:Int)]from by exact vbb)
     have HI11:=Lh (show MIP (wr.alloc (.cells #[.int .i64 (t.1:Int),.int .i64 (t.2.1:Int),.int .i64 (t.2.2:Int)] 106)) mb 0 es from HI.out.alloc _)
     have HS11:=Lh (show SL p3C 6 99 (wr.alloc (.cells #[.int .i64 (t.1:Int),.int .i64 (t.2.1:Int),.int .i64 (t.2.2:Int)] 106)) rb (.slice (some ⟨rb,0,none⟩) m.tris.length m.tris.length) R from HS.out.gr (by exact gzz))
     have HG11:=Lh (show Gr w.heap.size w (wr.alloc (.cells #[.int .i64 (t.1:Int),.int .i64 (t.2.1:Int),.int .i64 (t.2.2:Int)] 106))from by exact gcc HG gzz)
     have hz11:(wr.alloc (.cells #[.int .i64 (t.1:Int),.int .i64 (t.2.1:Int),.int .i64 (t.2.2:Int)] 106)).heap.size=wr.heap.size+1:=by simp
     generalize (wr.alloc (.cells #[.int .i64 (t.1:Int),.int .i64 (t.2.1:Int),.int .i64 (t.2.2:Int)] 106))=w11 at *
     generalize htb:wr.heap.size=tb at *
     have htb1:rb<tb:=by omega
     clear htb HI HS HG u0 u1 u2 hil hgr
     go_loopw [43] (fun s wr=> ∃(k:Nat) (R:List (Nat→Part)),k≤3∧s= .int .i64 k∧Hid (Rows es m.tris R i k)∧Hid (VB wr tb [.int .i64 (t.1:Int),.int .i64 (t.2.1:Int),.int .i64 (t.2.2:Int)])∧Hid (MIP wr mb 0 es)∧Hid (SL p3C 6 99 wr rb (.slice (some ⟨rb,0,none⟩) m.tris.length m.tris.length) R)∧Hid (Gr w.heap.size w wr)∧rb+1≤wr.heap.size∧tb+1≤wr.heap.size) (fun s _=>3 - (intOf s).toNat)
     case atStart=>exact⟨0,_,Nat.zero_le _,rfl,HRW,HB,HI11,HS11,HG11,by omega,by omega⟩
     case round=>
      clear HB HI11 HS11 HG11 hz11 HRW
      obtain ⟨k,R,hk,rfl,HRW,HB,HI,HS,HG,hrr,htr⟩:=hrel
      have hil:=HI.out.lt
      have hbl:=HB.out.lt
      by_cases hk3:k<3
      ·have q1:(k:Int)<3:=by omega
       have hw1:IntKind.i64.wrap ((k:Int)+1)=(k:Int)+1:=wrap64_id (by omega) (by omega)
       have hw2:IntKind.i64.wrap ((k:Int)+2)=(k:Int)+2:=wrap64_id (by omega) (by omega)
       have ht1:=tmod3_1 hk3
       have ht2:=tmod3_2 hk3
       obtain ⟨A,hA⟩:∃x,corT t (k+1)=x:=⟨_,rfl⟩
       obtain ⟨C,hC⟩:∃x,corT t (k+2)=x:=⟨_,rfl⟩
       have hAl:A<m.pts.length:=hA ▸ HCL.out (k+1)
       have hCl:C<m.pts.length:=hC ▸ HCL.out (k+2)
       have hhe:hasE es A C:=by rw [←hA,←hC];exact HHE.out k hk3
       have HPT:=Lh (show partsT es t k=(edgeNo es A C,sgnE A C)from by unfold partsT partE;rw [hA,hC])
       have d1:=HB.out.c _ _ (corT_get t (k+1))
       have d2:=HB.out.c _ _ (corT_get t (k+2))
       rw [hA]at d1
       rw [hC]at d2
       clear hA hC
       obtain ⟨k1,hk1⟩:∃x,(k+1) % 3=x:=⟨_,rfl⟩
       obtain ⟨k2,hk2⟩:∃x,(k+2) % 3=x:=⟨_,rfl⟩
       have hk13:k1<3:=by omega
       have hk23:k2<3:=by omega
       rw [hk1]at d1 ht1
       rw [hk2]at d2 ht2
       have qk1:(k1:Int)<3:=by omega
       have qk2:(k2:Int)<3:=by omega
       clear hk1 hk2
       have hlk:=edge_lk (mb:=mb) hhe (by omega) (by omega)
       have hel:=edge_lt hhe
       obtain ⟨en,hen⟩:∃x,edgeNo es A C=x:=⟨_,rfl⟩
       rw [hen]at hlk hel HPT
       have HLK:=Lh hlk
       clear hlk hen hhe
       go_upto_region 15 with fail
       refine wp_region_held_drew (S:=(fun w'=>w'.cell? ⟨tb,k1,none⟩=some (.int .i64 (A:Int))∧w'.cell? ⟨tb,k2,none⟩=some (.int .i64 (C:Int)))) (by kernel_rfl) ?_ (fun hHeld=>?_)
       ·simp [go_sem, *]
       refine tq 0 46 (.int .i64 (k:Int)) ?_
       refine tq 1 47 (.int .i64 ((k:Int)+1)) ?_
       refine tq 2 48 (.int .i64 (k1:Int)) ?_
       refine tq 3 49 (.pointer (some ⟨tb,k1,none⟩)) ?_
       refine tq 4 50 (.int .i64 (A:Int)) ?_
       refine tq 5 51 (.int .i64 (k:Int)) ?_
       refine tq 6 52 (.int .i64 ((k:Int)+2)) ?_
       refine tq 7 53 (.int .i64 (k2:Int)) ?_
       refine tq 8 54 (.pointer (some ⟨tb,k2,none⟩)) ?_
       refine tq 9 55 (.int .i64 (C:Int)) ?_
       refine tq 10 11 (.int .i64 (A:Int)) ?_
       refine tq 11 12 (.int .i64 (C:Int)) ?_
       refine wpAnyH_done (by kernel_rfl) ?_ _
       obtain ⟨lo,hlo⟩:∃x,min A C=x:=⟨_,rfl⟩
       obtain ⟨hh,hhh⟩:∃x,max A C=x:=⟨_,rfl⟩
       have n1:(if C<A then(C:Int)else(A:Int))=(lo:Int):=by split<;>omega
       have n2:(if A<C then(C:Int)else(A:Int))=(hh:Int):=by split<;>omega
       have n3:min (A:Int) (C:Int)=(lo:Int):=by omega
       have n4:max (A:Int) (C:Int)=(hh:Int):=by omega
       have HLK2:=HLK.out
       rw [hlo,hhh]at HLK2
       clear hlo hhh
       replace HLK2:=Lh HLK2
       go_upto_region 16 with fail
       have hlk:(Instr.lookup 153 (.map (some mb)) (.agg #[.int .i64 (lo:Int),.int .i64 (hh:Int)]) false).run Tryz.prog wr.drew.drew= .ok (.int .i64 (en:Int)) wr.drew.drew:=HLK2.out _ HI.out.drew.drew
       have hRi:i<R.length:=by rw [HRW.out.1];omega
       obtain ⟨x,hx⟩:∃x,R[i]? =some x:=⟨_,List.getElem?_eq_getElem hRi⟩
       obtain ⟨r0,r1,r2,r3,r4⟩:=rows_cells HS.out hx hk3
       have hrb2:rb≠tb:=by omega
       have HX:=Lh hx
       have q4:(i:Int)<(m.tris.length:Int):=q0
       clear hRi hx
       refine wp_region_held_drew (S:=(fun w'=>w'.cell? ⟨tb,k1,none⟩=some (.int .i64 (A:Int)))) (by kernel_rfl) ?_ (fun hHeld=>?_)
       ·simp [go_sem, *]
       refine tq 0 56 (.slice (some ⟨rb,0,none⟩) m.tris.length m.tris.length) ?_
       refine tq 1 57 (.int .i64 (i:Int)) ?_
       refine tq 2 58 (.int .i64 (k:Int)) ?_
       refine tq 3 59 (.map (some mb)) ?_
       refine tq 4 60 (.int .i64 (A:Int)) ?_
       refine tq 5 61 (.int .i64 (C:Int)) ?_
       refine tq 6 62 (.int .i64 (lo:Int)) ?_
       refine tq 7 63 (.int .i64 (A:Int)) ?_
       refine tq 8 64 (.int .i64 (C:Int)) ?_
       refine tq 9 65 (.int .i64 (hh:Int)) ?_
       refine tq 10 66 (.agg #[.int .i64 (lo:Int),.int .i64 (hh:Int)]) ?_
       refine tq 13 69 (.pointer (some ⟨rb,i*6,none⟩)) ?_
       refine rd 11 (fun K hK=>?_)
       go_simp
       refine kO hK fun hQ1=>?_
       clear hK K hHeld
       refine tq 12 68 (.agg #[.int .i64 (en:Int),.int .i64 1]) ?_
       refine tq 14 70 (.pointer (some ⟨rb,i*6+k*2,none⟩)) ?_
       refine rd 15 (fun K hK=>?_)
       go_simp
       refine kO hK fun hQ2=>?_
       clear hK K hQ1
       refine wpAnyH_done (by kernel_rfl) ?_ _
       have HS17:=Lh (show SL p3C 6 99 (((wr.setCell ⟨rb,i*6+k*2,none⟩ (.int .i64 (en:Int))).setCell ⟨rb,i*6+k*2+1,none⟩ (.int .i64 1)).drew.drew) rb (.slice (some ⟨rb,0,none⟩) m.tris.length m.tris.length) (R.set i (updF x k (en,1)))from(rows_put HS.out HRW.out.1 HX.out hk3 en 1).gr (by exact gzz))
       have HB17:=Lh (show VB (((wr.setCell ⟨rb,i*6+k*2,none⟩ (.int .i64 (en:Int))).setCell ⟨rb,i*6+k*2+1,none⟩ (.int .i64 1)).drew.drew) tb [.int .i64 (t.1:Int),.int .i64 (t.2.1:Int),.int .i64 (t.2.2:Int)]from by exact vbd HB.out)
       have HI17:=Lh (show MIP (((wr.setCell ⟨rb,i*6+k*2,none⟩ (.int .i64 (en:Int))).setCell ⟨rb,i*6+k*2+1,none⟩ (.int .i64 1)).drew.drew) mb 0 es from(((HI.out.far (by simp;omega) _).far (by simp;omega) _).drew).drew)
       have HG17:=Lh (show Gr w.heap.size w (((wr.setCell ⟨rb,i*6+k*2,none⟩ (.int .i64 (en:Int))).setCell ⟨rb,i*6+k*2+1,none⟩ (.int .i64 1)).drew.drew)from by exact gcc HG gzz)
       have hz17:(((wr.setCell ⟨rb,i*6+k*2,none⟩ (.int .i64 (en:Int))).setCell ⟨rb,i*6+k*2+1,none⟩ (.int .i64 1)).drew.drew).heap.size=wr.heap.size:=by simp
       generalize (((wr.setCell ⟨rb,i*6+k*2,none⟩ (.int .i64 (en:Int))).setCell ⟨rb,i*6+k*2+1,none⟩ (.int .i64 1)).drew.drew)=w17 at *
       clear HS HB HI HG r0 r1 r2 r3 r4 hQ2 hlk d1 d2
       have hx17:(R.set i (updF x k (en,1)))[i]? =some (updF x k (en,1)):=List.getElem?_set_self (List.getElem?_eq_some_iff.1 HX.out).1
       obtain ⟨-,r1,-,r3,r4⟩:=rows_cells HS17.out hx17 hk3
       have hr5:(updF x k (en,1) k).2=1:=by simp [updF]
       rw [hr5]at r1
       clear hr5 hx17
       have hw3:IntKind.i64.wrap ((k:Int)+1)=(k:Int)+1:=hw1
       by_cases hgt:C<A
       ·have q5:(C:Int)<(A:Int):=by omega
        have HPU:=Lh (show(en,(-1:Int))=partsT es t k from by rw [HPT.out];unfold sgnE;rw [if_pos hgt])
        go_wp2
        go_roundw
        case rel=>exact⟨k+1,_,by omega,by go_num,Lh (rows_step HRW.out HT.out HX.out HPU.out),Lh (HB17.out.far (by simp;omega) _),Lh (HI17.out.far (by simp;omega) _),Lh (rows_sgn HS17.out HRW.out.1 HX.out hk3 (-1)),Lh (Gr.setCell HG17.out (by simp;omega) _),by simp;omega,by simp;omega⟩
        case measure=>simp [intOf];omega
       ·have q5:¬(C:Int)<(A:Int):=by omega
        have HPU:=Lh (show(en,(1:Int))=partsT es t k from by rw [HPT.out];unfold sgnE;rw [if_neg hgt])
        go_wp2
        go_roundw
        case rel=>exact⟨k+1,_,by omega,by go_num,Lh (rows_step HRW.out HT.out HX.out HPU.out),HB17,HI17,HS17,HG17,by omega,by omega⟩
        case measure=>simp [intOf];omega
      ·have hk33:k=3:=by omega
       subst hk33
       go_wp2
       go_roundw
       case rel=>exact⟨i+1,R,by omega,by go_num,Lh (rows_next HRW.out),HI,HS,HG,by omega⟩
       case measure=>simp [intOf];omega
    ·have hin:i=m.tris.length:=by omega
     subst hin
     go_wp2
     go_ret
     exact⟨_,rfl,SR.cong p3C_len (HS.out.sr.mono (by omega)) (by rw [List.length_map];exact HRW.out.1) (rows_done rfl HRW.out),HG.out⟩
end Go.Proofs.YtfgmdhjmgdccdaaGreat
