/-
  Part 31 of the proof: WholeA.
-/
import Derived.Test.YtfgmdhjmgdccdaaGreatJ29
set_option linter.unusedSimpArgs false
set_option linter.unusedVariables false
set_option maxHeartbeats 8000000
namespace Go.Proofs.YtfgmdhjmgdccdaaGreat
open Go.RowKit Gus Go.Maps
set_option maxRecDepth 20000 in
theorem ms_whole (nx ny den fi:Nat) (m0 m1 m2 m3:Int) (cw:Value) (bs:List Nat) (w:World) (h1:nx<256) (h2:ny<256) (h3:fi<256) (hS:BS w cw bs) (hb:∀b∈bs,b<256)
  (C LL:List T2) (hC:C=cellsL (1+nx % 3) (1+ny % 3) (wayOf bs)) (hL:LL=turned (fun t=>fi+t*(fi / 3)) C) (hC36:C.length≤36) (hlow:∀p∈cornersOf LL,p.1≤60∧p.2≤60) (mv:P2→Int×Int) (hmv:∀p,mv p=((mapK m0 m1 m2 m3).1*p.1+(mapK m0 m1 m2 m3).2.1*p.2,(mapK m0 m1 m2 m3).2.2.1*p.1+(mapK m0 m1 m2 m3).2.2.2*p.2)):
  Calls Tryz.prog 51 #[.agg #[.int .u8 (nx:Int),.int .u8 (ny:Int),cw,.int .i8 m0,.int .i8 m1,.int .i8 m2,.int .i8 m3,.int .u8 (den:Int),.int .u8 (fi:Int)]] w (fun e w'=> ∃vp vt vs,e= .returned (.agg #[vp,vt,vs])∧SL i2C 2 118 w' w.heap.size vp ((placesOf (cornersOf LL)).map mv)∧SL triC 3 106 w' w.heap.size vt (LL.map (triOf (placesOf (cornersOf LL))))∧SL triC 3 106 w' w.heap.size vs (sdTo (LL.map (triOf (placesOf (cornersOf LL)))) fi (placesOf (cornersOf LL)).length (placesOf (cornersOf LL)).length)∧Gr w.heap.size w w'):=by
 obtain ⟨cv,cc,rfl⟩:=hS.at
 have HCE:=Lh (fun (W:World) (hW:Gr w.heap.size w W)=>ms_cells nx ny den fi m0 m1 m2 m3 (.slice cv bs.length cc) bs W h1 h2 (hS.gr hW) hb)
 rw [←hC]at HCE
 have HMV:=Lh (fun (x y:Nat) (hx:x≤60) (hy:y≤60) (W:World)=>ms_moved nx ny den fi m0 m1 m2 m3 (.slice cv bs.length cc) x y hx hy W)
 have HMV2:=Lh hmv
 have HLOW:=Lh hlow
 have hLl:LL.length=C.length:=by rw [hL];simp [turned]
 have HL:=Lh hL
 clear hS hb hC hL hmv hlow
 obtain ⟨cs,hcs⟩:∃q,cornersOf LL=q:=⟨_,rfl⟩
 have HCS:=Lh hcs
 have hcl:cs.length=3*C.length:=by rw [←hcs,corners_len,hLl]
 clear hcs
 obtain ⟨i1,hi1,hz0,hz1,hz2⟩:=info_parts info_bP2
 have HI1:=Lh (And.intro hi1 (And.intro hz0 (And.intro hz1 hz2)))
 clear hi1 hz0 hz1 hz2
 obtain ⟨i2,hi2,hz0,hz1,hz2⟩:=info_parts info_bI2
 have HI2:=Lh (And.intro hi2 (And.intro hz0 (And.intro hz1 hz2)))
 clear hi2 hz0 hz1 hz2
 obtain ⟨i3,hi3,hz0,hz1,hz2⟩:=info_parts info_bTri
 have HI3:=Lh (And.intro hi3 (And.intro hz0 (And.intro hz1 hz2)))
 clear hi3 hz0 hz1 hz2
 go_enter Tryz.func51,Tryz.ntmps51
 go_wp2_with fail
 refine(HCE.out _ (by exact gzz)).mono ?_
 rintro e w1 ⟨vc,rfl,hC1,hg1⟩
 have hsz1:=hg1.size
 (try simp at hsz1)
 obtain ⟨ac,ccap,rfl⟩:=hC1.at
 have HG1:=Lh (show Gr w.heap.size w w1 from(show Gr w.heap.size w (((w.alloc (.cells #[.int .u8 (nx:Int),.int .u8 (ny:Int),.slice cv bs.length cc,.int .i8 m0,.int .i8 m1,.int .i8 m2,.int .i8 m3,.int .u8 (den:Int),.int .u8 (fi:Int)] 26)).alloc (.cells #[.slice none 0 0,.slice none 0 0,.slice none 0 0] 116)).alloc (.cells #[.slice none 0 0,.slice none 0 0,.slice none 0 0] 116))from by exact gzz).trans (hg1.mono (by first|omega|(simp;done)|(simp;omega))))
 have HM:=Lh (show VB w1 (w.heap.size) [.int .u8 (nx:Int),.int .u8 (ny:Int),.slice cv bs.length cc,.int .i8 m0,.int .i8 m1,.int .i8 m2,.int .i8 m3,.int .u8 (den:Int),.int .u8 (fi:Int)]from(show VB (((w.alloc (.cells #[.int .u8 (nx:Int),.int .u8 (ny:Int),.slice cv bs.length cc,.int .i8 m0,.int .i8 m1,.int .i8 m2,.int .i8 m3,.int .u8 (den:Int),.int .u8 (fi:Int)] 26)).alloc (.cells #[.slice none 0 0,.slice none 0 0,.slice none 0 0] 116)).alloc (.cells #[.slice none 0 0,.slice none 0 0,.slice none 0 0] 116)) (w.heap.size) [.int .u8 (nx:Int),.int .u8 (ny:Int),.slice cv bs.length cc,.int .i8 m0,.int .i8 m1,.int .i8 m2,.int .i8 m3,.int .u8 (den:Int),.int .u8 (fi:Int)]from by exact vbb).gr hg1 (by first|omega|(simp;done)|(simp;omega)))
 have HR:=Lh (show VB w1 (w.heap.size+1) [.slice none 0 0,.slice none 0 0,.slice none 0 0]from(show VB (((w.alloc (.cells #[.int .u8 (nx:Int),.int .u8 (ny:Int),.slice cv bs.length cc,.int .i8 m0,.int .i8 m1,.int .i8 m2,.int .i8 m3,.int .u8 (den:Int),.int .u8 (fi:Int)] 26)).alloc (.cells #[.slice none 0 0,.slice none 0 0,.slice none 0 0] 116)).alloc (.cells #[.slice none 0 0,.slice none 0 0,.slice none 0 0] 116)) (w.heap.size+1) [.slice none 0 0,.slice none 0 0,.slice none 0 0]from by exact vbb).gr hg1 (by first|omega|(simp;done)|(simp;omega)))
 have HS:=Lh (show VB w1 (w.heap.size+1+1) [.slice none 0 0,.slice none 0 0,.slice none 0 0]from(show VB (((w.alloc (.cells #[.int .u8 (nx:Int),.int .u8 (ny:Int),.slice cv bs.length cc,.int .i8 m0,.int .i8 m1,.int .i8 m2,.int .i8 m3,.int .u8 (den:Int),.int .u8 (fi:Int)] 26)).alloc (.cells #[.slice none 0 0,.slice none 0 0,.slice none 0 0] 116)).alloc (.cells #[.slice none 0 0,.slice none 0 0,.slice none 0 0] 116)) (w.heap.size+1+1) [.slice none 0 0,.slice none 0 0,.slice none 0 0]from by exact vbb).gr hg1 (by first|omega|(simp;done)|(simp;omega)))
 have HC1:=Lh (hC1.mono (C:=w.heap.size+1+1+1) (by first|omega|(simp;done)|(simp;omega)))
 have hm1:=HM.out.lt
 have hs1:=HS.out.lt
 clear hC1 hg1 HCE
 go_upto_region 4 with fail
 rename_i K1 hK1 K0 hK0
 have hK2:∀a w',Met (fun a w'=>Code.wp Tryz.prog (tlW 24) (bodyPost Tryz.prog (Tryz.f51) (fun e w'=> ∃vp vt vs,e= .returned (.agg #[vp,vt,vs])∧SL i2C 2 118 w' w.heap.size vp ((placesOf (cornersOf LL)).map mv)∧SL triC 3 106 w' w.heap.size vt (LL.map (triOf (placesOf (cornersOf LL))))∧SL triC 3 106 w' w.heap.size vs (sdTo (LL.map (triOf (placesOf (cornersOf LL)))) fi (placesOf (cornersOf LL)).length (placesOf (cornersOf LL)).length)∧Gr w.heap.size w w')) a w') a w'→K1 a w':=fun a w' h=>hK1 a w' h
 clear hK1
 go_wp2
 go_loopw [4,6] (fun v s wr=> ∃(t:Nat) (vp vt:Value),t≤C.length∧s= .int .i64 t∧Hid (VB wr (w.heap.size+1+1) [vp,vt,.slice none 0 0])∧Hid (SL p2I 2 154 wr w1.heap.size v (placesOf (cs.take (3*t))))∧Hid (SL i2C 2 118 wr w1.heap.size vp ((placesOf (cs.take (3*t))).map mv))∧Hid (SL triC 3 106 wr w1.heap.size vt ((LL.take t).map (triOf (placesOf cs))))∧Hid (Sep3 v vp vt)∧Hid (Kp w1 wr (some (w.heap.size+1+1)))) (fun _ s _=>C.length - (intOf s).toNat)
 case atStart=>exact⟨0,_,_,Nat.zero_le _,rfl,HS,Lh SL.nil,Lh SL.nil,Lh SL.nil,Lh Sep3.nil,Lh ((Gr.refl _ _).kp _)⟩
 case round=>
  clear HS
  obtain ⟨t,vp,vt,ht,rfl,HS,HV,HP,HT,HSEP,HK⟩:=hrel
  have hszr:=HK.out.g.size
  have hpl:=places_len (cs.take (3*t))
  rw [List.length_take]at hpl
  obtain ⟨pl,hplE⟩:∃q,placesOf (cs.take (3*t))=q:=⟨_,rfl⟩
  rw [hplE]at HV HP hpl
  have HPL:=Lh hplE
  obtain ⟨av,cv2,rfl⟩:=HV.out.at
  by_cases hlt:t<C.length
  ·have q0:(t:Int)<(C.length:Int):=by omega
   go_wp2
   skip
   obtain ⟨LT,hLT⟩:∃q,LL[t]'(by omega)=q:=⟨_,rfl⟩
   obtain ⟨ix,hix⟩:∃q:Nat→Nat,(fun j=>(placesOf cs).idxOf (cor3 LT j))=q:=⟨_,rfl⟩
   have hsl:=HS.out.lt
   have o1:∀g,(Value.slice av pl.length cv2).ownBlock=some g→g<wr.heap.size:=fun g e=>(own_sl HV.out g e).2
   have o2:∀g,vp.ownBlock=some g→g<wr.heap.size:=fun g e=>(own_sl HP.out g e).2
   have o3:∀g,vt.ownBlock=some g→g<wr.heap.size:=fun g e=>(own_sl HT.out g e).2
   have htlw:w.heap.size<wr.heap.size:=by omega
   clear htlw
   replace HS:=Lh (show VB (wr.alloc (.cells #[.int .i64 0,.int .i64 0,.int .i64 0] 106)) (w.heap.size+1+1) _ from HS.out.alloc _)
   replace HV:=Lh (show SL p2I 2 154 (wr.alloc (.cells #[.int .i64 0,.int .i64 0,.int .i64 0] 106)) w1.heap.size _ _ from HV.out.gr (by exact gzz))
   replace HP:=Lh (show SL i2C 2 118 (wr.alloc (.cells #[.int .i64 0,.int .i64 0,.int .i64 0] 106)) w1.heap.size _ _ from HP.out.gr (by exact gzz))
   replace HT:=Lh (show SL triC 3 106 (wr.alloc (.cells #[.int .i64 0,.int .i64 0,.int .i64 0] 106)) w1.heap.size _ _ from HT.out.gr (by exact gzz))
   replace HK:=Lh (show Kp w1 (wr.alloc (.cells #[.int .i64 0,.int .i64 0,.int .i64 0] 106)) (some (w.heap.size+1+1))from HK.out.trans ((show Gr wr.heap.size wr _ from by exact gzz).kp _))
   have HNN:=Lh (show VB (wr.alloc (.cells #[.int .i64 0,.int .i64 0,.int .i64 0] 106)) wr.heap.size (nnC ix 0)from VB.new' rfl)
   have htb:w1.heap.size≤wr.heap.size:=hszr
   clear hszr hsl
   generalize (wr.alloc (.cells #[.int .i64 0,.int .i64 0,.int .i64 0] 106))=wa at *
   generalize wr.heap.size=tb at *
   go_loopw [4,8] (fun v s wr=> ∃(i:Nat) (vp:Value),i≤3∧s= .int .i64 i∧Hid (VB wr tb (nnC ix i))∧Hid (VB wr (w.heap.size+1+1) [vp,vt,.slice none 0 0])∧Hid (SL p2I 2 154 wr w1.heap.size v (placesOf (cs.take (3*t+i))))∧Hid (SL i2C 2 118 wr w1.heap.size vp ((placesOf (cs.take (3*t+i))).map mv))∧Hid (SL triC 3 106 wr w1.heap.size vt ((LL.take t).map (triOf (placesOf cs))))∧Hid (Sep3 v vp vt)∧Hid (Kp w1 wr (some (w.heap.size+1+1)))∧(∀g,v.ownBlock=some g→g≠tb)∧(∀g,vp.ownBlock=some g→g≠tb)∧(∀g,vt.ownBlock=some g→g≠tb)) (fun _ s _=>3 - (intOf s).toNat)
   case atStart=>exact⟨0,_,by omega,rfl,HNN,HS,Lh (by rw [Nat.add_zero,HPL.out];exact HV.out),Lh (by rw [Nat.add_zero,HPL.out];exact HP.out),HT,HSEP,HK,fun g e=>Nat.ne_of_lt (o1 g e),fun g e=>Nat.ne_of_lt (o2 g e),fun g e=>Nat.ne_of_lt (o3 g e)⟩
   case round=>
    clear HNN HS HV HP HT HSEP HK HPL hpl o1 o2 o3
    obtain ⟨i,vp,hi,rfl,HNN,HS,HV,HP,HT,HSEP,HK,o1,o2,o3⟩:=hrel
    have hszr:=HK.out.g.size
    have hpl:=places_len (cs.take (3*t+i))
    rw [List.length_take]at hpl
    obtain ⟨pl,hplE⟩:∃q,placesOf (cs.take (3*t+i))=q:=⟨_,rfl⟩
    rw [hplE]at HV HP hpl
    have HPL:=Lh hplE
    clear hplE
    obtain ⟨av,cv2,rfl⟩:=HV.out.at
    have htl:=HNN.out.lt
    have hsl:=HS.out.lt
    by_cases hi3:i<3
    ·have q1:(i:Int)<3:=by omega
     obtain ⟨p,hp⟩:∃q,cor3 LT i=q:=⟨_,rfl⟩
     have hcp:cs[3*t+i]? =some p:=by rw [←HCS.out,corners_at LL (by omega) hi3,hLT,hp]
     have hp60:=HLOW.out p (by rw [HCS.out];exact List.mem_of_getElem? hcp)
     obtain ⟨f3,hf3⟩:∃q,fi / 3=q:=⟨_,rfl⟩
     obtain ⟨s1,hs1'⟩:∃q,i+fi=q:=⟨_,rfl⟩
     obtain ⟨s2,hs2'⟩:∃q,t*f3=q:=⟨_,rfl⟩
     have hs2b:s2≤36*85:=by rw [←hs2'];exact Nat.mul_le_mul (by omega) (by omega)
     obtain ⟨r,hr⟩:∃q,s1+s2=q:=⟨_,rfl⟩
     obtain ⟨j,hj⟩:∃q,r % 3=q:=⟨_,rfl⟩
     have hj3:j<3:=by omega
     have hcor:cor3 (C[t]'hlt) j=p:=by
      have e1:LL[t]'(by omega)=rotT (C[t]'hlt) (fi+t*(fi / 3)):=by
       have:=HL.out
       subst this
       simp [turned]
      rw [←hp,←hLT,e1,cor3_rot _ _ hi3,←hj,←hr,←hs1',←hs2',←hf3,Nat.add_assoc]
     have f1:(fi:Int) / 3=(f3:Int):=by omega
     have f2:(fi:Int).tdiv 3=(f3:Int):=by rw [Int.tdiv_eq_ediv_of_nonneg (by omega)];exact f1
     have f4:(i:Int)+(fi:Int)=(s1:Int):=by omega
     have f5:(t:Int)*(f3:Int)=(s2:Int):=by rw [←hs2'];simp
     have f6:(s1:Int)+(s2:Int)=(r:Int):=by omega
     have f7:(r:Int) % 3=(j:Int):=by omega
     have f8:(r:Int).tmod 3=(j:Int):=by rw [Int.tmod_eq_emod_of_nonneg (by omega)];exact f7
     have g1:IntKind.i64.wrap (s1:Int)=s1:=wrap64_id (by omega) (by omega)
     have g2:IntKind.i64.wrap (s2:Int)=s2:=wrap64_id (by omega) (by omega)
     have g3:IntKind.i64.wrap (r:Int)=r:=wrap64_id (by omega) (by omega)
     have g4:IntKind.i64.wrap (j:Int)=j:=wrap64_id (by omega) (by omega)
     have g5:(j:Int)<3:=by omega
     have g6:IntKind.i64.wrap (fi:Int)=fi:=wrap64_id (by omega) (by omega)
     have g7:IntKind.u8.wrap (f3:Int)=f3:=wrapU8_id (by omega) (by omega)
     have g8:IntKind.i64.wrap (f3:Int)=f3:=wrap64_id (by omega) (by omega)
     have hmw:w.heap.size<wr.heap.size:=by omega
     clear hf3 hs1' hs2' hr hj hs2b
     obtain ⟨g,cap',e4,_,_,_,hsh,hR⟩:=((HK.out.sl HC1.out (fun g e e2=>by have:=HC1.out.own_ge e;have:=Option.some.inj e2;omega))).sr.block (by intro e;rw [e]at hlt;simp at hlt)
     injection e4 with e4 _ e5
     subst e4 e5
     have hglt:=hsh.lt
     obtain ⟨u0,u1⟩:=hR.fT6 hlt hj3 hcor
     clear hR hsh hcor
     have c8:=(HK.out.cell (o:=8) hm1 (fun e=>by have:=Option.some.inj e;omega)).trans (HM.out.c 8 _ rfl)
     go_upto_region 11 with fail
     go_cut [9] (fun s wx=> ∃pb,s= .pointer (some ⟨pb,0,none⟩)∧VB wx pb [.int .i64 (p.1:Int),.int .i64 (p.2:Int)]∧wr.heap.size≤pb∧Gr wr.heap.size wr wx)
     case first=>
      refine wp_region_held_drew (S:=(fun w'=>w'.cell? ⟨w.heap.size,8,none⟩=some (.int .u8 (fi:Int))∧w'.cell? ⟨g,t*6+j*2,none⟩=some (.int .i64 (p.1:Int))∧w'.cell? ⟨g,t*6+j*2+1,none⟩=some (.int .i64 (p.2:Int)))) (by kernel_rfl) ?_ (fun hHeld=>?_)
      ·simp [go_sem, *]
      refine tq 0 28 (.slice (some ⟨g,0,none⟩) C.length ccap) ?_
      refine tq 1 29 (.int .i64 (t:Int)) ?_
      refine tq 2 30 (.int .i64 (i:Int)) ?_
      refine tq 3 31 (.pointer (some ⟨w.heap.size,8,none⟩)) ?_
      refine tq 4 32 (.int .u8 (fi:Int)) ?_
      refine tq 5 33 (.int .i64 (fi:Int)) ?_
      refine tq 6 34 (.int .i64 (s1:Int)) ?_
      refine tq 7 35 (.int .i64 (t:Int)) ?_
      refine tq 8 36 (.pointer (some ⟨w.heap.size,8,none⟩)) ?_
      refine tq 9 37 (.int .u8 (fi:Int)) ?_
      refine tq 10 38 (.int .u8 (f3:Int)) ?_
      refine tq 11 39 (.int .i64 (f3:Int)) ?_
      refine tq 12 40 (.int .i64 (s2:Int)) ?_
      refine tq 13 41 (.int .i64 (r:Int)) ?_
      refine tq 14 42 (.int .i64 (j:Int)) ?_
      refine tq 15 43 (.pointer (some ⟨g,t*6,none⟩)) ?_
      refine tq 16 44 (.pointer (some ⟨g,t*6+j*2,none⟩)) ?_
      refine tq 17 45 (.agg #[.int .i64 (p.1:Int),.int .i64 (p.2:Int)]) ?_
      refine rd 18 (fun K hK=>?_)
      go_simp
      refine kO hK fun hQ1=>?_
      clear hK K hHeld
      refine rd 19 (fun K hK=>?_)
      go_simp
      refine kO hK fun hQ2=>?_
      clear hK K hQ1
      refine wpAnyH_done (by kernel_rfl) ?_ _
      go_wp2_with fail
      go_meet
      exact⟨_,rfl,by exact vbb,Nat.le_refl _,by exact gzz⟩
     case rest=>
      obtain ⟨wb,hwb⟩:∃q,q=wc:=⟨_,rfl⟩
      subst hwb
      obtain ⟨pb,rfl,hPB,hpb,hgb⟩:=hcut
      have hpv:∀g,(Value.slice av pl.length cv2).ownBlock=some g→g≠pb:=fun g e=>by have:=(own_sl HV.out g e).2;omega
      replace hpv:=Lh hpv
      have hpp:∀g,vp.ownBlock=some g→g≠pb:=fun g e=>by have:=(own_sl HP.out g e).2;omega
      replace hpp:=Lh hpp
      have hpne:¬w.heap.size+1+1=pb:=by omega
      replace HNN:=Lh (HNN.out.gr hgb htl)
      replace HS:=Lh (HS.out.gr hgb hsl)
      replace HV:=Lh (HV.out.gr hgb)
      replace HP:=Lh (HP.out.gr hgb)
      replace HT:=Lh (HT.out.gr hgb)
      replace HK:=Lh (HK.out.trans (hgb.kp _))
      have hszb:=hgb.size
      replace htl:tb<wb.heap.size:=by omega
      replace hsl:w.heap.size+1+1<wb.heap.size:=by omega
      replace hszr:w1.heap.size≤wb.heap.size:=by omega
      have hpbl:=hPB.lt
      have HPB:=Lh hPB
      clear hPB u0 u1 c8 f1 f2 f4 f5 f6 f7 f8 g1 g2 g3 g4 g5 g6 g7 g8 hglt hgb hmw
      go_wp2
      go_loopw [10,11] (fun x s wq=> ∃k:Nat,k≤pl.length∧s= .int .i64 k∧x= .int .i64 (fnd pl p k)∧Hid (Gr wb.heap.size wb wq)) (fun _ s _=>pl.length - (intOf s).toNat)
      case atStart=>exact⟨0,Nat.zero_le _,rfl,by rw [fnd_zero],Lh (Gr.refl _ _)⟩
      case round=>
       obtain ⟨k,hk,rfl,rfl,HQ⟩:=hrel
       have hszq:=HQ.out.size
       by_cases hkl:k<pl.length
       ·have r0:(k:Int)<(pl.length:Int):=by omega
        obtain ⟨q,hq⟩:∃x,pl[k]=x:=⟨_,rfl⟩
        have hgq:pl[k]? =some q:=by rw [List.getElem?_eq_getElem hkl,hq]
        obtain ⟨gv,cap',e4,_,_,_,hsh,hR⟩:=(HV.out.gr HQ.out).sr.block (by intro e;rw [e]at hkl;simp at hkl)
        injection e4 with e4 _ e5
        subst e4 e5
        have hgvl:=hsh.lt
        obtain ⟨b0,b1⟩:=hR.fP2 hkl hq
        obtain ⟨p0,p1,_,_⟩:=(HPB.out.gr HQ.out hpbl).two
        have r1:IntKind.i64.wrap ((k:Int)+1)=((k+1:Nat):Int):=by rw [wrap64_id (by omega) (by omega)];omega
        clear hR hsh hq
        by_cases hqp:q=p
        ·have heql:∀W,(binOp .eql 154 (.agg #[.int .i64 (q.1:Int),.int .i64 (q.2:Int)]) (.agg #[.int .i64 (p.1:Int),.int .i64 (p.2:Int)])).run Tryz.prog W= .ok (.bool true) W:=fun W=>by rw [eql_P2,decide_eq_true hqp]
         have hfn:=fnd_hit (by rw [←HPL.out];exact places_nodup _) (hqp ▸ hgq)
         replace hfn:=Lh hfn
         clear hqp hgq
         go_upto_region 16 with fail
         refine wp_region_held_drew (S:=(fun w'=>w'.cell? ⟨gv,k*2,none⟩=some (.int .i64 (q.1:Int))∧w'.cell? ⟨gv,k*2+1,none⟩=some (.int .i64 (q.2:Int))∧w'.cell? ⟨pb,0,none⟩=some (.int .i64 (p.1:Int))∧w'.cell? ⟨pb,1,none⟩=some (.int .i64 (p.2:Int)))) (by kernel_rfl) ?_ (fun hHeld=>?_)
         ·simp [go_sem, *]
         refine tq 0 52 (.slice (some ⟨gv,0,none⟩) pl.length cv2) ?_
         refine tq 1 53 (.int .i64 (k:Int)) ?_
         refine tq 2 54 (.pointer (some ⟨gv,k*2,none⟩)) ?_
         refine tq 3 55 (.agg #[.int .i64 (q.1:Int),.int .i64 (q.2:Int)]) ?_
         refine tq 4 56 (.agg #[.int .i64 (p.1:Int),.int .i64 (p.2:Int)]) ?_
         refine tq 5 57 (.bool true) ?_
         refine wpAnyH_done (by kernel_rfl) ?_ _
         go_wp2
         go_roundw
         case rel=>exact⟨k+1,by omega,by go_num,by rw [hfn.out],Lh (by exact gcc HQ gzz)⟩
         case measure=>simp [intOf];omega
        ·have heql:∀W,(binOp .eql 154 (.agg #[.int .i64 (q.1:Int),.int .i64 (q.2:Int)]) (.agg #[.int .i64 (p.1:Int),.int .i64 (p.2:Int)])).run Tryz.prog W= .ok (.bool false) W:=fun W=>by rw [eql_P2,decide_eq_false hqp]
         have hfn:=fnd_miss hgq hqp
         replace hfn:=Lh hfn
         clear hqp hgq
         go_upto_region 16 with fail
         refine wp_region_held_drew (S:=(fun w'=>w'.cell? ⟨gv,k*2,none⟩=some (.int .i64 (q.1:Int))∧w'.cell? ⟨gv,k*2+1,none⟩=some (.int .i64 (q.2:Int))∧w'.cell? ⟨pb,0,none⟩=some (.int .i64 (p.1:Int))∧w'.cell? ⟨pb,1,none⟩=some (.int .i64 (p.2:Int)))) (by kernel_rfl) ?_ (fun hHeld=>?_)
         ·simp [go_sem, *]
         refine tq 0 52 (.slice (some ⟨gv,0,none⟩) pl.length cv2) ?_
         refine tq 1 53 (.int .i64 (k:Int)) ?_
         refine tq 2 54 (.pointer (some ⟨gv,k*2,none⟩)) ?_
         refine tq 3 55 (.agg #[.int .i64 (q.1:Int),.int .i64 (q.2:Int)]) ?_
         refine tq 4 56 (.agg #[.int .i64 (p.1:Int),.int .i64 (p.2:Int)]) ?_
         refine tq 5 57 (.bool false) ?_
         refine wpAnyH_done (by kernel_rfl) ?_ _
         go_wp2
         go_roundw
         case rel=>exact⟨k+1,by omega,by go_num,by rw [hfn.out],Lh (by exact gcc HQ gzz)⟩
         case measure=>simp [intOf];omega
       ·have hkl2:k=pl.length:=by omega
        subst hkl2
        rw [fnd_all]
        have hix2:ix i=pl.idxOf p:=by rw [←hix,←HPL.out];simp only [hp];exact place_idx hcp
        have hix3:=Lh hix2
        clear hix2
        have hsucc:placesOf (cs.take (3*t+(i+1)))=addp pl p:=by rw [←HPL.out,←Nat.add_assoc];exact places_succ hcp
        replace hsucc:=Lh hsucc
        have htq:tb<wr.heap.size:=by omega
        have hnn:=HNN.out.gr HQ.out htl
        have x0:=hnn.c i (nnC ix i)[i]! (by rcases(show i=0∨i=1∨i=2 by omega)with rfl|rfl|rfl<;>rfl)
        have x1:=hnn.f i (by simp [nnC];omega)
        replace hnn:=Lh hnn
        have q5:(0:Int)≤(i:Int):=by omega
        have q6:IntKind.i64.wrap ((i:Int)+1)=((i+1:Nat):Int):=by rw [wrap64_id (by omega) (by omega)];omega
        by_cases hmem:p∈pl
        ·rw [if_pos hmem]
         have hsucc2:placesOf (cs.take (3*t+(i+1)))=pl:=by rw [hsucc.out];unfold addp;rw [if_pos hmem]
         replace hsucc2:=Lh hsucc2
         obtain ⟨n0,hn0⟩:∃x,pl.idxOf p=x:=⟨_,rfl⟩
         have hn0b:n0<pl.length:=by rw [←hn0];exact List.idxOf_lt_length_of_mem hmem
         rw [hn0]at hix3 ⊢
         clear hn0 hmem
         have r2:¬(n0:Int)<0:=by omega
         go_wp2
         go_roundw
         case rel=>
          have hk2:Kp wr _ (some tb):=Kp.sets wr tb i [.int .i64 (n0:Int)]
          refine⟨i+1,vp,by omega,by go_num,Lh ?_,Lh ((HS.out.gr HQ.out hsl).kp hk2 (fun e=>by have:=Option.some.inj e;omega)),Lh ?_,Lh ?_,Lh ?_,HSEP,Lh ((HK.out.trans (HQ.out.kp _)).far hk2 (fun g e=>by have:=Option.some.inj e;omega)),o1,o2,o3⟩
          ·rw [←nnC_set ix hi3,hix3.out];exact hnn.out.one i _ (by simp [nnC];omega)
          ·rw [hsucc2.out];exact hk2.sl (HV.out.gr HQ.out) (fun g e e2=>o1 g e (Option.some.inj e2))
          ·rw [hsucc2.out];exact hk2.sl (HP.out.gr HQ.out) (fun g e e2=>o2 g e (Option.some.inj e2))
          ·exact hk2.sl (HT.out.gr HQ.out) (fun g e e2=>o3 g e (Option.some.inj e2))
         case measure=>simp [intOf];omega
        ·rw [if_neg hmem]
         have hsucc2:placesOf (cs.take (3*t+(i+1)))=pl++ [p]:=by rw [hsucc.out];unfold addp;rw [if_neg hmem]
         replace hsucc2:=Lh hsucc2
         have hix4:pl.idxOf p=pl.length:=List.idxOf_eq_length hmem
         rw [hix4]at hix3
         clear hix4 hmem
         obtain ⟨ptl,hptl⟩:∃q,pl.map mv=q:=⟨_,rfl⟩
         rw [hptl]at HP
         have hptn:ptl.length=pl.length:=by rw [←hptl];simp
         have HPTL:=Lh hptl
         clear hptl
         obtain ⟨ap,cp,rfl⟩:=HP.out.at
         have hmb2:w.heap.size<wr.heap.size:=by omega
         have hpb2:pb<wr.heap.size:=by omega
         have hsb2:w.heap.size+1+1<wr.heap.size:=by omega
         obtain ⟨p0,p1,_,_⟩:=(HPB.out.gr HQ.out hpbl).two
         have hptb:ptl.length≤200:=by omega
         clear hptn
         go_upto_region 21 with(at_builtin;refine wpList_appS _ rfl _ _ 172 rfl w1.heap.size i1 _ 16 Tryz.underlying172 HI1.out.1 HI1.out.2.1 HI1.out.2.2.1 HI1.out.2.2.2 rfl (by decide) p2I_len p2I_one _ pl rfl ((HV.out.gr HQ.out).gr (by exact gzz)) wr.heap.size _ [p] 1 rfl rfl (RC.new1' (by simp) rfl) (by simp [maxLen];omega) (by simp;omega) (by simp;omega) ?_;intro v' w4 hS4 hkp4 hown;obtain ⟨pa4,pc4,e4⟩:=hS4.at;obtain ⟨n4,hn4⟩:∃n,(pl++ [p]).length=n:=⟨_,rfl⟩;rw [hn4]at e4;subst e4;have HN4:=Lh hn4;clear hn4;have HALL:=Lh (show SL p2I 2 154 w4 w1.heap.size (.slice pa4 n4 pc4) (pl++ [p])∧Kp (wr.alloc (.cells #[.int .i64 (p.1:Int),.int .i64 (p.2:Int)] 154)) w4 (Value.slice av pl.length cv2).ownBlock∧((Value.slice pa4 n4 pc4).ownBlock=(Value.slice av pl.length cv2).ownBlock∨(Value.slice pa4 n4 pc4).ownBlock=some (wr.alloc (.cells #[.int .i64 (p.1:Int),.int .i64 (p.2:Int)] 154)).heap.size)from⟨hS4,hkp4,hown⟩);have hsz4:=hkp4.g.size;(try simp at hsz4);clear hS4 hkp4 hown)
         obtain ⟨hS4,hkp4,hown⟩:=HALL.out
         have hWB:(wr.alloc (.cells #[.int .i64 (p.1:Int),.int .i64 (p.2:Int)] 154)).heap.size=wr.heap.size+1:=by simp
         have HV4:=Lh hS4
         have HP4:=Lh (hkp4.sl ((HP.out.gr HQ.out).gr (show Gr wr.heap.size wr (wr.alloc (.cells #[.int .i64 (p.1:Int),.int .i64 (p.2:Int)] 154))from by exact gzz)) (fun g e e2=>HSEP.out.1 g e2.symm e))
         have HT4:=Lh (hkp4.sl ((HT.out.gr HQ.out).gr (show Gr wr.heap.size wr (wr.alloc (.cells #[.int .i64 (p.1:Int),.int .i64 (p.2:Int)] 154))from by exact gzz)) (fun g e e2=>HSEP.out.2.1 g e2.symm e))
         have HS4:=Lh (((HS.out.gr HQ.out hsl).alloc _).kp hkp4 (fun e=>by have:=HV.out.own_ge e.symm;omega))
         have HNN4:=Lh ((hnn.out.alloc _).kp hkp4 (fun e=>o1 tb e.symm rfl))
         have HPB4:=Lh (((HPB.out.gr HQ.out hpbl).alloc _).kp hkp4 (fun e=>hpv.out pb e.symm rfl))
         have HK4:=Lh (((HK.out.trans (HQ.out.kp _)).trans ((show Gr wr.heap.size wr (wr.alloc (.cells #[.int .i64 (p.1:Int),.int .i64 (p.2:Int)] 154))from by exact gzz).kp _)).far hkp4 (fun g e=>HV.out.own_ge e))
         have HM4:=Lh (HM.out.kp HK4.out (fun e=>by have:=Option.some.inj e;omega))
         have HSEP4:=Lh (HSEP.out.a hown (fun g e=>by have:=(own_sl HP.out g e).2;omega) (fun g e=>by have:=(own_sl HT.out g e).2;omega))
         have o14:∀g,(Value.slice pa4 n4 pc4).ownBlock=some g→g≠tb:=fun g e=>by
          rcases hown with h|h
          ·exact o1 g (h ▸ e)
          ·rw [h]at e;have:=Option.some.inj e;omega
         replace o14:=Lh o14
         replace o2:=Lh o2
         replace o3:=Lh o3
         have hl5:tb<w4.heap.size∧pb<w4.heap.size∧w.heap.size+1+1<w4.heap.size∧w.heap.size<w4.heap.size:=⟨by omega,by omega,by omega,by omega⟩
         obtain ⟨l5a,l5b,l5c,l5d⟩:=hl5
         clear hS4 hkp4 hown HALL HV HP HT HS HNN hnn HPB HK HSEP hpv HQ o1 hWB x0 x1 p0 p1 hmb2 hpb2 hsb2 hszq htq hszb htl hpbl hpb hsl hszr
         obtain ⟨⟨mx,my⟩,hm⟩:∃q,mv p=q:=⟨_,rfl⟩
         have hcall:=Lh (show ∀W,Calls Tryz.prog 94 #[.agg #[.int .u8 (nx:Int),.int .u8 (ny:Int),.slice cv bs.length cc,.int .i8 m0,.int .i8 m1,.int .i8 m2,.int .i8 m3,.int .u8 (den:Int),.int .u8 (fi:Int)],.agg #[.int .i64 (p.1:Int),.int .i64 (p.2:Int)]] W (Ret W (.agg #[.int .i64 mx,.int .i64 my]))from fun W=>by
          have h:=HMV.out p.1 p.2 hp60.1 hp60.2 W
          have e:=HMV2.out p
          rw [hm]at e
          injection e with e1 e2
          rw [←e1,←e2]at h
          exact h)
         have n0':=HM4.out.c 0 _ rfl
         have n1':=HM4.out.c 1 _ rfl
         have n2':=HM4.out.c 2 _ rfl
         have n3':=HM4.out.c 3 _ rfl
         have n4':=HM4.out.c 4 _ rfl
         have n5':=HM4.out.c 5 _ rfl
         have n6':=HM4.out.c 6 _ rfl
         have n7':=HM4.out.c 7 _ rfl
         have n8':=HM4.out.c 8 _ rfl
         obtain ⟨p0,p1,_,_⟩:=HPB4.out.two
         obtain ⟨s0,_,_,_,_,_⟩:=HS4.out.three'
         refine wp_region_held_drew (S:=(fun w'=>w'.cell? ⟨w.heap.size,0,none⟩=some (.int .u8 (nx:Int))∧w'.cell? ⟨w.heap.size,1,none⟩=some (.int .u8 (ny:Int))∧w'.cell? ⟨w.heap.size,2,none⟩=some (.slice cv bs.length cc)∧w'.cell? ⟨w.heap.size,3,none⟩=some (.int .i8 m0)∧w'.cell? ⟨w.heap.size,4,none⟩=some (.int .i8 m1)∧w'.cell? ⟨w.heap.size,5,none⟩=some (.int .i8 m2)∧w'.cell? ⟨w.heap.size,6,none⟩=some (.int .i8 m3)∧w'.cell? ⟨w.heap.size,7,none⟩=some (.int .u8 (den:Int))∧w'.cell? ⟨w.heap.size,8,none⟩=some (.int .u8 (fi:Int))∧w'.cell? ⟨pb,0,none⟩=some (.int .i64 (p.1:Int))∧w'.cell? ⟨pb,1,none⟩=some (.int .i64 (p.2:Int)))) (by kernel_rfl) ?_ (fun hHeld=>?_)
         ·simp [go_sem, *]
         refine tq 0 67 (.pointer (some ⟨w.heap.size+1+1,0,none⟩)) ?_
         refine tq 2 69 (.agg #[.int .u8 (nx:Int),.int .u8 (ny:Int),.slice cv bs.length cc,.int .i8 m0,.int .i8 m1,.int .i8 m2,.int .i8 m3,.int .u8 (den:Int),.int .u8 (fi:Int)]) ?_
         refine tq 3 70 (.agg #[.int .i64 (p.1:Int),.int .i64 (p.2:Int)]) ?_
         refine rdZ 1 4 (fun K hK=>?_) (fun K hK=>?_)
         ·go_simp
          refine kO hK fun hQ1=>?_
          clear hK K hHeld
          refine wpAnyH_ready (rs:= [4]) (by kernel_rfl) (by simp) ?_
          refine AllReadyH.cons rfl (fun K hK=>?_) AllReadyH.nil
          go_simp
          (refine rtu (hcall.out _) fun w5 hsz5 hl5 hc5 hf5 HG5=>?_;(try simp at hsz5))
          refine kO hK fun hQ2=>?_
          clear hK K hQ1
          refine wpAnyH_ready (rs:= [5]) (by kernel_rfl) (by simp) ?_
          refine AllReadyH.cons rfl (fun K hK=>?_) AllReadyH.nil
          go_simp
          refine kO hK fun hQ3=>?_
          clear hK K hQ2
          refine rd 6 (fun K hK=>?_)
          rw [if_pos (by rfl)]
          refine wp_appS _ _ _ 114 rfl w1.heap.size i2 _ 16 Tryz.underlying114 HI2.out.1 HI2.out.2.1 HI2.out.2.2.1 HI2.out.2.2.2 rfl (by decide) i2C_len i2C_one (.slice ap ptl.length cp) ptl rfl (HP4.out.gr (by exact gcc HG5 gzz)) w5.heap.size 1 [(mx,my)] 1 rfl rfl (by first|exact RC.new1 rfl|exact RC.drew (RC.new1 rfl)) (by unfold maxLen;simp;omega) (by simp;omega) (by simp;omega) ?_
          intro v6 w6 hS6 hkp6 hown6
          skip
          have HS6:=Lh ((HS4.out.gr (show Gr w4.heap.size w4 _ from by exact gcc HG5 gzz) l5c).kp hkp6 (fun e=>by have:=HP4.out.own_ge e.symm;omega))
          have HNN6:=Lh ((HNN4.out.gr (show Gr w4.heap.size w4 _ from by exact gcc HG5 gzz) l5a).kp hkp6 (fun e=>o2.out tb e.symm rfl))
          have HPB6:=(HPB4.out.gr (show Gr w4.heap.size w4 _ from by exact gcc HG5 gzz) l5b).kp hkp6 (fun e=>hpp.out pb e.symm rfl)
          have HM6:=(HM4.out.gr (show Gr w4.heap.size w4 _ from by exact gcc HG5 gzz) l5d).kp hkp6 (fun e=>by have:=HP4.out.own_ge e.symm;omega)
          have HV6:=Lh (hkp6.sl (HV4.out.gr (show Gr w4.heap.size w4 _ from by exact gcc HG5 gzz)) (fun g e e2=>HSEP4.out.1 g e e2.symm))
          have HT6:=Lh (hkp6.sl (HT4.out.gr (show Gr w4.heap.size w4 _ from by exact gcc HG5 gzz)) (fun g e e2=>HSEP4.out.2.2 g e2.symm e))
          have HK6:=Lh ((HK4.out.trans ((show Gr w4.heap.size w4 _ from by exact gcc HG5 gzz).kp _)).far hkp6 (fun g e=>HP4.out.own_ge e))
          have hsz6:=hkp6.g.size
          (try simp at hsz6)
          have HSEP6:=Lh (HSEP4.out.b hown6 (fun g e=>by have:=(own_sl HV4.out g e).2;simp;omega) (fun g e=>by have:=(own_sl HT4.out g e).2;simp;omega))
          have o26:∀g,v6.ownBlock=some g→g≠tb:=fun g e=>by
           rcases hown6 with h|h
           ·exact o2.out g (h ▸ e)
           ·rw [h]at e;have:=Option.some.inj e;simp at this;omega
          obtain ⟨pa6,pc6,e6⟩:=hS6.at
          obtain ⟨n6,hn6⟩:∃n,(ptl++ [(mx,my)]).length=n:=⟨_,rfl⟩
          rw [hn6]at e6
          subst e6
          have HS6':=Lh hS6
          replace o26:=Lh o26
          clear hn6 hS6 hown6
          refine hK.out _ _ ?_ (fun hQ9=>?_)
          ·exact⟨HM6.c 0 _ rfl,HM6.c 1 _ rfl,HM6.c 2 _ rfl,HM6.c 3 _ rfl,HM6.c 4 _ rfl,HM6.c 5 _ rfl,HM6.c 6 _ rfl,HM6.c 7 _ rfl,HM6.c 8 _ rfl,HPB6.c 0 _ rfl,HPB6.c 1 _ rfl⟩
          clear hK K hQ3 hkp6
          try simp only [pS]
          have z0:=HS6.out.c 0 _ rfl
          have z1:=HS6.out.f 0 (by simp)
          have hpne2:¬pb=w.heap.size+1+1:=fun e=>hpne e.symm
          have htne:¬w.heap.size+1+1=tb:=by omega
          have htne2:¬tb=w.heap.size+1+1:=by omega
          have y0:=HNN6.out.c i (nnC ix i)[i]! (by rcases(show i=0∨i=1∨i=2 by omega)with rfl|rfl|rfl<;>rfl)
          have y1:=HNN6.out.f i (by simp [nnC];omega)
          refine tq 7 74 (.pointer (some ⟨w.heap.size+1+1,0,none⟩)) ?_
          refine rd 8 (fun K hK=>?_)
          go_simp
          refine kO hK fun hQ10=>?_
          clear hK K hQ9
          refine wpAnyH_done (by kernel_rfl) ?_ _
          go_wp2
          go_roundw
          case rel=>
           have k1:Kp w6 (w6.setCell ⟨w.heap.size+1+1,0,none⟩ (.slice pa6 n6 pc6)) (some (w.heap.size+1+1)):=Kp.sets w6 (w.heap.size+1+1) 0 [.slice pa6 n6 pc6]
           have k2:Kp (w6.setCell ⟨w.heap.size+1+1,0,none⟩ (.slice pa6 n6 pc6)) _ (some tb):=Kp.sets (w6.setCell ⟨w.heap.size+1+1,0,none⟩ (.slice pa6 n6 pc6)) tb i [.int .i64 (pl.length:Int)]
           refine⟨i+1,.slice pa6 n6 pc6,by omega,by go_num,Lh ?_,Lh ?_,Lh ?_,Lh ?_,Lh ?_,HSEP6,Lh ?_,o14.out,o26.out,o3.out⟩
           ·rw [←nnC_set ix hi3,hix3.out];exact(HNN6.out.kp k1 (fun e=>htne2 (Option.some.inj e))).one i _ (by simp [nnC];omega)
           ·exact(HS6.out.one 0 _ (by simp)).kp k2 (fun e=>htne (Option.some.inj e))
           ·rw [hsucc2.out];exact k2.sl (k1.sl HV6.out (fun g e e2=>by have:=HV6.out.own_ge e;have:=Option.some.inj e2;omega)) (fun g e e2=>o14.out g e (Option.some.inj e2))
           ·rw [hsucc2.out,List.map_append,HPTL.out,List.map_cons,List.map_nil,hm];exact k2.sl (k1.sl HS6'.out (fun g e e2=>by have:=HS6'.out.own_ge e;have:=Option.some.inj e2;omega)) (fun g e e2=>o26.out g e (Option.some.inj e2))
           ·exact k2.sl (k1.sl HT6.out (fun g e e2=>by have:=HT6.out.own_ge e;have:=Option.some.inj e2;omega)) (fun g e e2=>o3.out g e (Option.some.inj e2))
           ·exact(HK6.out.trans k1).far k2 (fun g e=>by have:=Option.some.inj e;omega)
          case measure=>simp [intOf];omega
         ·go_simp
          (refine rtu (hcall.out _) fun w5 hsz5 hl5 hc5 hf5 HG5=>?_;(try simp at hsz5))
          refine kO hK fun hQ1=>?_
          clear hK K hHeld
          refine rdZ 1 5 (fun K hK=>?_) (fun K hK=>?_)
          ·go_simp
           refine kO hK fun hQ2=>?_
           clear hK K hQ1
           refine wpAnyH_ready (rs:= [5]) (by kernel_rfl) (by simp) ?_
           refine AllReadyH.cons rfl (fun K hK=>?_) AllReadyH.nil
           go_simp
           refine kO hK fun hQ3=>?_
           clear hK K hQ2
           refine rd 6 (fun K hK=>?_)
           rw [if_pos (by rfl)]
           refine wp_appS _ _ _ 114 rfl w1.heap.size i2 _ 16 Tryz.underlying114 HI2.out.1 HI2.out.2.1 HI2.out.2.2.1 HI2.out.2.2.2 rfl (by decide) i2C_len i2C_one (.slice ap ptl.length cp) ptl rfl (HP4.out.gr (by exact gcc HG5 gzz)) w5.heap.size 1 [(mx,my)] 1 rfl rfl (by first|exact RC.new1 rfl|exact RC.drew (RC.new1 rfl)) (by unfold maxLen;simp;omega) (by simp;omega) (by simp;omega) ?_
           intro v6 w6 hS6 hkp6 hown6
           skip
           have HS6:=Lh ((HS4.out.gr (show Gr w4.heap.size w4 _ from by exact gcc HG5 gzz) l5c).kp hkp6 (fun e=>by have:=HP4.out.own_ge e.symm;omega))
           have HNN6:=Lh ((HNN4.out.gr (show Gr w4.heap.size w4 _ from by exact gcc HG5 gzz) l5a).kp hkp6 (fun e=>o2.out tb e.symm rfl))
           have HPB6:=(HPB4.out.gr (show Gr w4.heap.size w4 _ from by exact gcc HG5 gzz) l5b).kp hkp6 (fun e=>hpp.out pb e.symm rfl)
           have HM6:=(HM4.out.gr (show Gr w4.heap.size w4 _ from by exact gcc HG5 gzz) l5d).kp hkp6 (fun e=>by have:=HP4.out.own_ge e.symm;omega)
           have HV6:=Lh (hkp6.sl (HV4.out.gr (show Gr w4.heap.size w4 _ from by exact gcc HG5 gzz)) (fun g e e2=>HSEP4.out.1 g e e2.symm))
           have HT6:=Lh (hkp6.sl (HT4.out.gr (show Gr w4.heap.size w4 _ from by exact gcc HG5 gzz)) (fun g e e2=>HSEP4.out.2.2 g e2.symm e))
           have HK6:=Lh ((HK4.out.trans ((show Gr w4.heap.size w4 _ from by exact gcc HG5 gzz).kp _)).far hkp6 (fun g e=>HP4.out.own_ge e))
           have hsz6:=hkp6.g.size
           (try simp at hsz6)
           have HSEP6:=Lh (HSEP4.out.b hown6 (fun g e=>by have:=(own_sl HV4.out g e).2;simp;omega) (fun g e=>by have:=(own_sl HT4.out g e).2;simp;omega))
           have o26:∀g,v6.ownBlock=some g→g≠tb:=fun g e=>by
            rcases hown6 with h|h
            ·exact o2.out g (h ▸ e)
            ·rw [h]at e;have:=Option.some.inj e;simp at this;omega
           obtain ⟨pa6,pc6,e6⟩:=hS6.at
           obtain ⟨n6,hn6⟩:∃n,(ptl++ [(mx,my)]).length=n:=⟨_,rfl⟩
           rw [hn6]at e6
           subst e6
           have HS6':=Lh hS6
           replace o26:=Lh o26
           clear hn6 hS6 hown6
           refine hK.out _ _ ?_ (fun hQ9=>?_)
           ·exact⟨HM6.c 0 _ rfl,HM6.c 1 _ rfl,HM6.c 2 _ rfl,HM6.c 3 _ rfl,HM6.c 4 _ rfl,HM6.c 5 _ rfl,HM6.c 6 _ rfl,HM6.c 7 _ rfl,HM6.c 8 _ rfl,HPB6.c 0 _ rfl,HPB6.c 1 _ rfl⟩
           clear hK K hQ3 hkp6
           try simp only [pS]
           have z0:=HS6.out.c 0 _ rfl
           have z1:=HS6.out.f 0 (by simp)
           have hpne2:¬pb=w.heap.size+1+1:=fun e=>hpne e.symm
           have htne:¬w.heap.size+1+1=tb:=by omega
           have htne2:¬tb=w.heap.size+1+1:=by omega
           have y0:=HNN6.out.c i (nnC ix i)[i]! (by rcases(show i=0∨i=1∨i=2 by omega)with rfl|rfl|rfl<;>rfl)
           have y1:=HNN6.out.f i (by simp [nnC];omega)
           refine tq 7 74 (.pointer (some ⟨w.heap.size+1+1,0,none⟩)) ?_
           refine rd 8 (fun K hK=>?_)
           go_simp
           refine kO hK fun hQ10=>?_
           clear hK K hQ9
           refine wpAnyH_done (by kernel_rfl) ?_ _
           go_wp2
           go_roundw
           case rel=>
            have k1:Kp w6 (w6.setCell ⟨w.heap.size+1+1,0,none⟩ (.slice pa6 n6 pc6)) (some (w.heap.size+1+1)):=Kp.sets w6 (w.heap.size+1+1) 0 [.slice pa6 n6 pc6]
            have k2:Kp (w6.setCell ⟨w.heap.size+1+1,0,none⟩ (.slice pa6 n6 pc6)) _ (some tb):=Kp.sets (w6.setCell ⟨w.heap.size+1+1,0,none⟩ (.slice pa6 n6 pc6)) tb i [.int .i64 (pl.length:Int)]
            refine⟨i+1,.slice pa6 n6 pc6,by omega,by go_num,Lh ?_,Lh ?_,Lh ?_,Lh ?_,Lh ?_,HSEP6,Lh ?_,o14.out,o26.out,o3.out⟩
            ·rw [←nnC_set ix hi3,hix3.out];exact(HNN6.out.kp k1 (fun e=>htne2 (Option.some.inj e))).one i _ (by simp [nnC];omega)
            ·exact(HS6.out.one 0 _ (by simp)).kp k2 (fun e=>htne (Option.some.inj e))
            ·rw [hsucc2.out];exact k2.sl (k1.sl HV6.out (fun g e e2=>by have:=HV6.out.own_ge e;have:=Option.some.inj e2;omega)) (fun g e e2=>o14.out g e (Option.some.inj e2))
            ·rw [hsucc2.out,List.map_append,HPTL.out,List.map_cons,List.map_nil,hm];exact k2.sl (k1.sl HS6'.out (fun g e e2=>by have:=HS6'.out.own_ge e;have:=Option.some.inj e2;omega)) (fun g e e2=>o26.out g e (Option.some.inj e2))
            ·exact k2.sl (k1.sl HT6.out (fun g e e2=>by have:=HT6.out.own_ge e;have:=Option.some.inj e2;omega)) (fun g e e2=>o3.out g e (Option.some.inj e2))
            ·exact(HK6.out.trans k1).far k2 (fun g e=>by have:=Option.some.inj e;omega)
           case measure=>simp [intOf];omega
          ·go_simp
           refine kO hK fun hQ2=>?_
           clear hK K hQ1
           refine wpAnyH_ready (rs:= [1]) (by kernel_rfl) (by simp) ?_
           refine AllReadyH.cons rfl (fun K hK=>?_) AllReadyH.nil
           go_simp
           refine kO hK fun hQ3=>?_
           clear hK K hQ2
           refine rd 6 (fun K hK=>?_)
           rw [if_pos (by rfl)]
           refine wp_appS _ _ _ 114 rfl w1.heap.size i2 _ 16 Tryz.underlying114 HI2.out.1 HI2.out.2.1 HI2.out.2.2.1 HI2.out.2.2.2 rfl (by decide) i2C_len i2C_one (.slice ap ptl.length cp) ptl rfl (HP4.out.gr (by exact gcc HG5 gzz)) w5.heap.size 1 [(mx,my)] 1 rfl rfl (by first|exact RC.new1 rfl|exact RC.drew (RC.new1 rfl)) (by unfold maxLen;simp;omega) (by simp;omega) (by simp;omega) ?_
           intro v6 w6 hS6 hkp6 hown6
           skip
           have HS6:=Lh ((HS4.out.gr (show Gr w4.heap.size w4 _ from by exact gcc HG5 gzz) l5c).kp hkp6 (fun e=>by have:=HP4.out.own_ge e.symm;omega))
           have HNN6:=Lh ((HNN4.out.gr (show Gr w4.heap.size w4 _ from by exact gcc HG5 gzz) l5a).kp hkp6 (fun e=>o2.out tb e.symm rfl))
           have HPB6:=(HPB4.out.gr (show Gr w4.heap.size w4 _ from by exact gcc HG5 gzz) l5b).kp hkp6 (fun e=>hpp.out pb e.symm rfl)
           have HM6:=(HM4.out.gr (show Gr w4.heap.size w4 _ from by exact gcc HG5 gzz) l5d).kp hkp6 (fun e=>by have:=HP4.out.own_ge e.symm;omega)
           have HV6:=Lh (hkp6.sl (HV4.out.gr (show Gr w4.heap.size w4 _ from by exact gcc HG5 gzz)) (fun g e e2=>HSEP4.out.1 g e e2.symm))
           have HT6:=Lh (hkp6.sl (HT4.out.gr (show Gr w4.heap.size w4 _ from by exact gcc HG5 gzz)) (fun g e e2=>HSEP4.out.2.2 g e2.symm e))
           have HK6:=Lh ((HK4.out.trans ((show Gr w4.heap.size w4 _ from by exact gcc HG5 gzz).kp _)).far hkp6 (fun g e=>HP4.out.own_ge e))
           have hsz6:=hkp6.g.size
           (try simp at hsz6)
           have HSEP6:=Lh (HSEP4.out.b hown6 (fun g e=>by have:=(own_sl HV4.out g e).2;simp;omega) (fun g e=>by have:=(own_sl HT4.out g e).2;simp;omega))
           have o26:∀g,v6.ownBlock=some g→g≠tb:=fun g e=>by
            rcases hown6 with h|h
            ·exact o2.out g (h ▸ e)
            ·rw [h]at e;have:=Option.some.inj e;simp at this;omega
           obtain ⟨pa6,pc6,e6⟩:=hS6.at
           obtain ⟨n6,hn6⟩:∃n,(ptl++ [(mx,my)]).length=n:=⟨_,rfl⟩
           rw [hn6]at e6
           subst e6
           have HS6':=Lh hS6
           replace o26:=Lh o26
           clear hn6 hS6 hown6
           refine hK.out _ _ ?_ (fun hQ9=>?_)
           ·exact⟨HM6.c 0 _ rfl,HM6.c 1 _ rfl,HM6.c 2 _ rfl,HM6.c 3 _ rfl,HM6.c 4 _ rfl,HM6.c 5 _ rfl,HM6.c 6 _ rfl,HM6.c 7 _ rfl,HM6.c 8 _ rfl,HPB6.c 0 _ rfl,HPB6.c 1 _ rfl⟩
           clear hK K hQ3 hkp6
           try simp only [pS]
           have z0:=HS6.out.c 0 _ rfl
           have z1:=HS6.out.f 0 (by simp)
           have hpne2:¬pb=w.heap.size+1+1:=fun e=>hpne e.symm
           have htne:¬w.heap.size+1+1=tb:=by omega
           have htne2:¬tb=w.heap.size+1+1:=by omega
           have y0:=HNN6.out.c i (nnC ix i)[i]! (by rcases(show i=0∨i=1∨i=2 by omega)with rfl|rfl|rfl<;>rfl)
           have y1:=HNN6.out.f i (by simp [nnC];omega)
           refine tq 7 74 (.pointer (some ⟨w.heap.size+1+1,0,none⟩)) ?_
           refine rd 8 (fun K hK=>?_)
           go_simp
           refine kO hK fun hQ10=>?_
           clear hK K hQ9
           refine wpAnyH_done (by kernel_rfl) ?_ _
           go_wp2
           go_roundw
           case rel=>
            have k1:Kp w6 (w6.setCell ⟨w.heap.size+1+1,0,none⟩ (.slice pa6 n6 pc6)) (some (w.heap.size+1+1)):=Kp.sets w6 (w.heap.size+1+1) 0 [.slice pa6 n6 pc6]
            have k2:Kp (w6.setCell ⟨w.heap.size+1+1,0,none⟩ (.slice pa6 n6 pc6)) _ (some tb):=Kp.sets (w6.setCell ⟨w.heap.size+1+1,0,none⟩ (.slice pa6 n6 pc6)) tb i [.int .i64 (pl.length:Int)]
            refine⟨i+1,.slice pa6 n6 pc6,by omega,by go_num,Lh ?_,Lh ?_,Lh ?_,Lh ?_,Lh ?_,HSEP6,Lh ?_,o14.out,o26.out,o3.out⟩
            ·rw [←nnC_set ix hi3,hix3.out];exact(HNN6.out.kp k1 (fun e=>htne2 (Option.some.inj e))).one i _ (by simp [nnC];omega)
            ·exact(HS6.out.one 0 _ (by simp)).kp k2 (fun e=>htne (Option.some.inj e))
            ·rw [hsucc2.out];exact k2.sl (k1.sl HV6.out (fun g e e2=>by have:=HV6.out.own_ge e;have:=Option.some.inj e2;omega)) (fun g e e2=>o14.out g e (Option.some.inj e2))
            ·rw [hsucc2.out,List.map_append,HPTL.out,List.map_cons,List.map_nil,hm];exact k2.sl (k1.sl HS6'.out (fun g e e2=>by have:=HS6'.out.own_ge e;have:=Option.some.inj e2;omega)) (fun g e e2=>o26.out g e (Option.some.inj e2))
            ·exact k2.sl (k1.sl HT6.out (fun g e e2=>by have:=HT6.out.own_ge e;have:=Option.some.inj e2;omega)) (fun g e e2=>o3.out g e (Option.some.inj e2))
            ·exact(HK6.out.trans k1).far k2 (fun g e=>by have:=Option.some.inj e;omega)
           case measure=>simp [intOf];omega
    ·have hi33:i=3:=by omega
     subst hi33
     obtain ⟨trl,htrl⟩:∃q,(LL.take t).map (triOf (placesOf cs))=q:=⟨_,rfl⟩
     rw [htrl]at HT
     have htrn:trl.length≤36:=by rw [←htrl];simp;omega
     replace htrl:=Lh htrl
     obtain ⟨at_,ct,rfl⟩:=HT.out.at
     have hnn3:nnC ix 3= [.int .i64 (ix 0:Int),.int .i64 (ix 1:Int),.int .i64 (ix 2:Int)]:=by simp [nnC]
     have hnv:=HNN.out
     rw [hnn3]at hnv
     obtain ⟨m0',m1',m2',_⟩:=hnv.three'
     obtain ⟨b0,b1,b2,_⟩:=HS.out.three'
     have q6:IntKind.i64.wrap ((t:Int)+1)=((t+1:Nat):Int):=by rw [wrap64_id (by omega) (by omega)];omega
     have htl2:tb<wr.heap.size:=htl
     clear hnn3 hnv hpl
     go_wp2_with (at_builtin;refine wpList_appS _ rfl _ _ 32 rfl w1.heap.size i3 _ 24 Tryz.underlying32 HI3.out.1 HI3.out.2.1 HI3.out.2.2.1 HI3.out.2.2.2 rfl (by decide) triC_len triC_one _ trl rfl (HT.out.gr (by exact gzz)) wr.heap.size _ [(ix 0,ix 1,ix 2)] 1 rfl rfl (RC.new1' (by simp) rfl) (by simp [maxLen];omega) (by simp;omega) (by simp;omega) ?_;intro v' w4 hS4 hkp4 hown;obtain ⟨pa4,pc4,e4⟩:=hS4.at;obtain ⟨n4,hn4⟩:∃n,(trl++ [(ix 0,ix 1,ix 2)]).length=n:=⟨_,rfl⟩;rw [hn4]at e4;subst e4;have HN4:=Lh hn4;clear hn4;have HALL:=Lh (show SL triC 3 106 w4 w1.heap.size (.slice pa4 n4 pc4) (trl++ [(ix 0,ix 1,ix 2)])∧Kp (wr.alloc (.cells #[.int .i64 (ix 0:Int),.int .i64 (ix 1:Int),.int .i64 (ix 2:Int)] 106)) w4 (Value.slice at_ trl.length ct).ownBlock∧((Value.slice pa4 n4 pc4).ownBlock=(Value.slice at_ trl.length ct).ownBlock∨(Value.slice pa4 n4 pc4).ownBlock=some (wr.alloc (.cells #[.int .i64 (ix 0:Int),.int .i64 (ix 1:Int),.int .i64 (ix 2:Int)] 106)).heap.size)from⟨hS4,hkp4,hown⟩);have hsz4:=hkp4.g.size;(try simp at hsz4);have b4:=((HS.out.alloc _).kp hkp4 (fun e=>by have:=HT.out.own_ge e.symm;omega));obtain ⟨d0,d1,d2,e0,e1,e2⟩:=b4.three';have HB4:=Lh b4;clear b4 hS4 hkp4 hown)
     go_roundw
     case rel=>
      obtain ⟨hS4,hkp4,hown⟩:=HALL.out
      have k1:Kp w4 (w4.setCell ⟨w.heap.size+1+1,1,none⟩ (.slice pa4 n4 pc4)) (some (w.heap.size+1+1)):=Kp.sets w4 (w.heap.size+1+1) 1 [.slice pa4 n4 pc4]
      have e3:3*(t+1)=3*t+3:=by omega
      refine⟨t+1,vp,.slice pa4 n4 pc4,by omega,by go_num,Lh (HB4.out.one 1 _ (by simp)),Lh ?_,Lh ?_,Lh ?_,Lh ?_,Lh ?_⟩
      ·rw [e3,HPL.out];exact k1.sl (hkp4.sl (HV.out.gr (by exact gzz)) (fun g e e2=>HSEP.out.2.1 g e e2.symm)) (fun g e e2=>by have:=HV.out.own_ge e;have:=Option.some.inj e2;omega)
      ·rw [e3,HPL.out];exact k1.sl (hkp4.sl (HP.out.gr (by exact gzz)) (fun g e e2=>HSEP.out.2.2 g e e2.symm)) (fun g e e2=>by have:=HP.out.own_ge e;have:=Option.some.inj e2;omega)
      ·rw [List.take_add_one,List.getElem?_eq_getElem (by omega),hLT,List.map_append,htrl.out]
       have e5:triOf (placesOf cs) LT=(ix 0,ix 1,ix 2):=by rw [←hix];rfl
       simp only [Option.toList_some,List.map_cons,List.map_nil,e5]
       exact k1.sl hS4 (fun g e e2=>by have:=hS4.own_ge e;have:=Option.some.inj e2;omega)
      ·exact HSEP.out.c hown (fun g e=>by have:=(own_sl HV.out g e).2;simp;omega) (fun g e=>by have:=(own_sl HP.out g e).2;simp;omega)
      ·exact((HK.out.trans ((show Gr wr.heap.size wr (wr.alloc _)from by exact gzz).kp _)).far hkp4 (fun g e=>HT.out.own_ge e)).trans k1
     case measure=>simp [intOf];omega
  ·have htc:t=C.length:=by omega
   subst htc
   have hcs2:=HCS.out
   subst hcs2
   have hall:placesOf ((cornersOf LL).take (3*C.length))=placesOf (cornersOf LL):=by rw [List.take_of_length_le (by rw [corners_len];omega)]
   have hpl2:pl=placesOf (cornersOf LL):=HPL.out.symm.trans hall
   subst hpl2
   have HT2:=HT.out
   rw [List.take_of_length_le (by omega)]at HT2
   have HM2:=HM.out.kp HK.out (fun e=>by have:=Option.some.inj e;omega)
   have HR2:=HR.out.kp HK.out (fun e=>by have:=Option.some.inj e;omega)
   have HGw:=HG1.out.trans (HK.out.gr (B:=w.heap.size) (fun b e=>by have:=Option.some.inj e;omega) (by omega))
   have hn200:(placesOf (cornersOf LL)).length≤200:=by have:=places_len (cornersOf LL);rw [corners_len]at this;omega
   have hMM:=Lh (And.intro HT2 (And.intro HM2 (And.intro HR2 HGw)))
   clear HT2 HM2 HR2 HGw hall hpl
   go_wp2_with fail
   refine Met.intro ?_
   exact whole24 w wr [.int .u8 (nx:Int),.int .u8 (ny:Int),.slice cv bs.length cc,.int .i8 m0,.int .i8 m1,.int .i8 m2,.int .i8 m3,.int .u8 (den:Int),.int .u8 (fi:Int)] fi _ rfl h3 hn200 ((placesOf (cornersOf LL)).map mv) (LL.map (triOf (placesOf (cornersOf LL)))) (by simp;omega) av cv2 vp vt hMM.out.2.2.2 hMM.out.2.1 hMM.out.2.2.1 HS.out (HP.out.mono (by omega)) (hMM.out.1.mono (by omega))
end Go.Proofs.YtfgmdhjmgdccdaaGreat
