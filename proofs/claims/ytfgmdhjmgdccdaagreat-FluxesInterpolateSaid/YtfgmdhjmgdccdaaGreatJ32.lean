/-
  Part 32 of the proof: MeshM GridD Mesh EdgM EsM AgainB.
-/
import Derived.Test.YtfgmdhjmgdccdaaGreatJ31
import Derived.Test.YtfgmdhjmgdccdaaGreatJ19
import Derived.Test.YtfgmdhjmgdccdaaGreatJ14
import Derived.Test.YtfgmdhjmgdccdaaGreatJ20
import Derived.Test.YtfgmdhjmgdccdaaGreatJ2
import Derived.ReadAgain
import Derived.ChangeBook
import Derived.ChangeOld
import Derived.Deep.Slices
set_option linter.unusedSimpArgs false
set_option linter.unusedVariables false
set_option maxHeartbeats 8000000
namespace Go.Proofs.YtfgmdhjmgdccdaaGreat
open Go.RowKit Gus Go.Maps
def ptq (d:Nat) (q:Int×Int):Pt:=⟨qQ q.1 d,qQ q.2 d⟩
theorem RC.fI2 {w:World} {g:Nat} {l:List (Int×Int)} (h:RC i2C 2 w g l) {k:Nat} (hk:k<l.length) {p:Int×Int} (hp:l[k]=p):w.cell? ⟨g,k*2,none⟩=some (.int .i64 p.1)∧w.cell? ⟨g,k*2+1,none⟩=some (.int .i64 p.2):=by
 subst hp
 exact⟨h k hk 0 _ rfl,h k hk 1 _ rfl⟩
theorem info_bPtM:(Tryz.prog.info? 64).map (fun i=>(i.zero,i.size,i.bytes))=some (some (.agg #[zU,zS,.bool false,zU,zS,zU,zS,.bool false,zU,zS]),10,112):=info_bPt
set_option maxRecDepth 20000 in
theorem ms_Mesh (nx ny den fi:Nat) (m0 m1 m2 m3:Int) (cw:Value) (bs:List Nat) (w:World) (hd:den<256) (hS:BS w cw bs) (PT:List (Int×Int)) (TR SD:List Tri) (hPT:PT.length≤200) (hTR:TR.length≤200) (hSD:SD.length≤50000) (hq:∀q∈PT,-360≤q.1∧q.1≤360∧ -360≤q.2∧q.2≤360)
  (hWh:∀W:World,Gr w.heap.size w W→Calls Tryz.prog 51 #[.agg #[.int .u8 (nx:Int),.int .u8 (ny:Int),cw,.int .i8 m0,.int .i8 m1,.int .i8 m2,.int .i8 m3,.int .u8 (den:Int),.int .u8 (fi:Int)]] W (fun e w'=> ∃vp vt vs,e= .returned (.agg #[vp,vt,vs])∧SL i2C 2 118 w' W.heap.size vp PT∧SL triC 3 106 w' W.heap.size vt TR∧SL triC 3 106 w' W.heap.size vs SD∧Gr W.heap.size W w')):
  Calls Tryz.prog 20 #[.agg #[.int .u8 (nx:Int),.int .u8 (ny:Int),cw,.int .i8 m0,.int .i8 m1,.int .i8 m2,.int .i8 m3,.int .u8 (den:Int),.int .u8 (fi:Int)]] w (fun e w'=> ∃a b c,e= .returned (.agg #[a,b,c])∧MS w' w.heap.size a b c ⟨PT.map (ptq (1+den % 6)),TR,SD⟩∧Gr w.heap.size w w'):=by
 obtain ⟨cv,cc,rfl⟩:=hS.at
 have HWH:=Lh hWh
 have HQ:=Lh hq
 clear hWh hq hS
 obtain ⟨d6,hd6⟩:∃q,1+den % 6=q:=⟨_,rfl⟩
 rw [hd6]
 have hd7:1+(den:Int) % 6=(d6:Int):=by omega
 have hd8:d6≤6:=by omega
 clear hd6
 obtain ⟨i1,hi1,hz0,hz1,hz2⟩:=info_parts info_bPtM
 have HI1:=Lh (And.intro hi1 (And.intro hz0 (And.intro hz1 hz2)))
 clear hi1 hz0 hz1 hz2
 obtain ⟨i3,hi3,hz0,hz1,hz2⟩:=info_parts info_bSide
 have HI3:=Lh (And.intro hi3 (And.intro hz0 (And.intro hz1 hz2)))
 clear hi3 hz0 hz1 hz2
 go_enter Tryz.func20,Tryz.ntmps20
 go_wp2_with fail
 refine(HWH.out _ (by exact gzz)).mono ?_
 rintro e w1 ⟨vp,vt,vs,rfl,hP,hT,hS,hg1⟩
 have hsz1:=hg1.size
 (try simp at hsz1)
 have HG1:=Lh (show Gr w.heap.size w w1 from(show Gr w.heap.size w ((w.alloc (.cells #[.int .u8 (nx:Int),.int .u8 (ny:Int),.slice cv bs.length cc,.int .i8 m0,.int .i8 m1,.int .i8 m2,.int .i8 m3,.int .u8 (den:Int),.int .u8 (fi:Int)] 26)).alloc (.cells #[.slice none 0 0,.slice none 0 0,.slice none 0 0] 35))from by exact gzz).trans (hg1.mono (by first|omega|(simp;done)|(simp;omega))))
 have HM:=Lh (show VB w1 (w.heap.size) [.int .u8 (nx:Int),.int .u8 (ny:Int),.slice cv bs.length cc,.int .i8 m0,.int .i8 m1,.int .i8 m2,.int .i8 m3,.int .u8 (den:Int),.int .u8 (fi:Int)]from(show VB ((w.alloc (.cells #[.int .u8 (nx:Int),.int .u8 (ny:Int),.slice cv bs.length cc,.int .i8 m0,.int .i8 m1,.int .i8 m2,.int .i8 m3,.int .u8 (den:Int),.int .u8 (fi:Int)] 26)).alloc (.cells #[.slice none 0 0,.slice none 0 0,.slice none 0 0] 35)) (w.heap.size) [.int .u8 (nx:Int),.int .u8 (ny:Int),.slice cv bs.length cc,.int .i8 m0,.int .i8 m1,.int .i8 m2,.int .i8 m3,.int .u8 (den:Int),.int .u8 (fi:Int)]from by exact vbb).gr hg1 (by first|omega|(simp;done)|(simp;omega)))
 have HR:=Lh (show VB w1 (w.heap.size+1) [.slice none 0 0,.slice none 0 0,.slice none 0 0]from(show VB ((w.alloc (.cells #[.int .u8 (nx:Int),.int .u8 (ny:Int),.slice cv bs.length cc,.int .i8 m0,.int .i8 m1,.int .i8 m2,.int .i8 m3,.int .u8 (den:Int),.int .u8 (fi:Int)] 26)).alloc (.cells #[.slice none 0 0,.slice none 0 0,.slice none 0 0] 35)) (w.heap.size+1) [.slice none 0 0,.slice none 0 0,.slice none 0 0]from by exact vbb).gr hg1 (by first|omega|(simp;done)|(simp;omega)))
 have HP:=Lh (hP.mono (C:=w.heap.size+1+1) (by first|omega|(simp;done)|(simp;omega)))
 have HT:=Lh (hT.mono (C:=w.heap.size+1+1) (by first|omega|(simp;done)|(simp;omega)))
 have HS:=Lh (hS.mono (C:=w.heap.size+1+1) (by first|omega|(simp;done)|(simp;omega)))
 have hm1:=HM.out.lt
 have hr1:=HR.out.lt
 clear hP hT hS hg1 HWH
 obtain ⟨ap,cp,rfl⟩:=HP.out.at
 obtain ⟨at_,ct,rfl⟩:=HT.out.at
 obtain ⟨as_,cs,rfl⟩:=HS.out.at
 have c7:=HM.out.c 7 _ rfl
 go_wp2
 clear c7
 have oP:∀g,(Value.slice ap PT.length cp).ownBlock=some g→g<w1.heap.size:=fun g e=>(own_sl HP.out g e).2
 have oT:∀g,(Value.slice at_ TR.length ct).ownBlock=some g→g<w1.heap.size:=fun g e=>(own_sl HT.out g e).2
 have oS:∀g,(Value.slice as_ SD.length cs).ownBlock=some g→g<w1.heap.size:=fun g e=>(own_sl HS.out g e).2
 have HWH:=Lh (show VB ((w1.alloc (.cells #[.slice ap PT.length cp,.slice at_ TR.length ct,.slice as_ SD.length cs] 116)).alloc (.cells #[.slice none 0 0,.slice none 0 0,.slice none 0 0] 35)) w1.heap.size [.slice ap PT.length cp,.slice at_ TR.length ct,.slice as_ SD.length cs]from by exact vbb)
 have HE:=Lh (show VB ((w1.alloc (.cells #[.slice ap PT.length cp,.slice at_ TR.length ct,.slice as_ SD.length cs] 116)).alloc (.cells #[.slice none 0 0,.slice none 0 0,.slice none 0 0] 35)) (w1.heap.size+1) [.slice none 0 0,.slice none 0 0,.slice none 0 0]from by exact vbb)
 replace HR:=Lh (show VB ((w1.alloc (.cells #[.slice ap PT.length cp,.slice at_ TR.length ct,.slice as_ SD.length cs] 116)).alloc (.cells #[.slice none 0 0,.slice none 0 0,.slice none 0 0] 35)) (w.heap.size+1) [.slice none 0 0,.slice none 0 0,.slice none 0 0]from(HR.out.alloc _).alloc _)
 replace HP:=Lh (show SL i2C 2 118 ((w1.alloc (.cells #[.slice ap PT.length cp,.slice at_ TR.length ct,.slice as_ SD.length cs] 116)).alloc (.cells #[.slice none 0 0,.slice none 0 0,.slice none 0 0] 35)) _ _ PT from HP.out.gr (by exact gzz))
 replace HT:=Lh (show SL triC 3 106 ((w1.alloc (.cells #[.slice ap PT.length cp,.slice at_ TR.length ct,.slice as_ SD.length cs] 116)).alloc (.cells #[.slice none 0 0,.slice none 0 0,.slice none 0 0] 35)) _ _ TR from HT.out.gr (by exact gzz))
 replace HS:=Lh (show SL triC 3 106 ((w1.alloc (.cells #[.slice ap PT.length cp,.slice at_ TR.length ct,.slice as_ SD.length cs] 116)).alloc (.cells #[.slice none 0 0,.slice none 0 0,.slice none 0 0] 35)) _ _ SD from HS.out.gr (by exact gzz))
 replace HG1:=Lh (show Gr w.heap.size w ((w1.alloc (.cells #[.slice ap PT.length cp,.slice at_ TR.length ct,.slice as_ SD.length cs] 116)).alloc (.cells #[.slice none 0 0,.slice none 0 0,.slice none 0 0] 35))from by exact gcc HG1 gzz)
 have hw2:(((w1.alloc (.cells #[.slice ap PT.length cp,.slice at_ TR.length ct,.slice as_ SD.length cs] 116)).alloc (.cells #[.slice none 0 0,.slice none 0 0,.slice none 0 0] 35))).heap.size=w1.heap.size+1+1:=by simp
 clear HM
 generalize ((w1.alloc (.cells #[.slice ap PT.length cp,.slice at_ TR.length ct,.slice as_ SD.length cs] 116)).alloc (.cells #[.slice none 0 0,.slice none 0 0,.slice none 0 0] 35))=w2 at *
 generalize w1.heap.size=qb at *
 go_loopw [6] (fun s wr=> ∃(i:Nat) (ps:Value),i≤PT.length∧s= .int .i64 i∧Hid (VB wr (qb+1) [ps,.slice none 0 0,.slice none 0 0])∧Hid (SL pC 10 64 wr w2.heap.size ps ((PT.take i).map (ptq d6)))∧Hid (Kp w2 wr (some (qb+1)))) (fun s _=>PT.length - (intOf s).toNat)
 case atStart=>exact⟨0,_,Nat.zero_le _,rfl,HE,Lh SL.nil,Lh ((Gr.refl _ _).kp _)⟩
 case round=>
  clear HE
  obtain ⟨i,ps,hi,rfl,HE,HV,HK⟩:=hrel
  have hszr:=HK.out.g.size
  obtain ⟨ptl,hptl⟩:∃q,(PT.take i).map (ptq d6)=q:=⟨_,rfl⟩
  rw [hptl]at HV
  have hptb:ptl.length≤200:=by rw [←hptl];simp;omega
  replace hptl:=Lh hptl
  obtain ⟨aw,cw2,rfl⟩:=HV.out.at
  have HW:=Lh (HWH.out.kp HK.out (fun e=>by have:=Option.some.inj e;omega))
  have hel:=HE.out.lt
  have hql:=HW.out.lt
  obtain ⟨b0,b1,b2,_⟩:=HW.out.three'
  by_cases hlt:i<PT.length
  ·have q0:(i:Int)<(PT.length:Int):=by omega
   obtain ⟨p,hp⟩:∃x,PT[i]=x:=⟨_,rfl⟩
   have hpq:=HQ.out p (hp ▸ List.getElem_mem hlt)
   obtain ⟨g,cap',e4,hgB,_,_,hsh,hR⟩:=(HK.out.sl HP.out (fun g e e2=>by have:=oP g e;have:=Option.some.inj e2;omega)).sr.block (by intro e;rw [e]at hlt;simp at hlt)
   injection e4 with e4 _ e5
   subst e4 e5
   have hglt:=hsh.lt
   obtain ⟨u0,u1⟩:=hR.fI2 hlt hp
   clear hR hsh
   obtain ⟨pt,hpt⟩:∃x,ptq d6 p=x:=⟨_,rfl⟩
   have hPO:=Lh (show ∀W,Calls Tryz.prog 52 #[.agg #[.int .i64 p.1,.int .u32 (d6:Int),.int .i64 p.2,.int .u32 (d6:Int)]] W (Ret W (pV pt))from fun W=>by rw [←hpt];exact p_Of p.1 p.2 d6 d6 W (by omega) (by omega) (by omega) (by omega) (by omega) (by omega))
   have hps:Hid ((PT.take (i+1)).map (ptq d6)=ptl++ [pt]):=Lh (by rw [List.take_add_one,List.getElem?_eq_getElem hlt,hp,List.map_append,hptl.out,←hpt];rfl)
   clear hpt
   have q6:IntKind.i64.wrap ((i:Int)+1)=((i+1:Nat):Int):=by rw [wrap64_id (by omega) (by omega)];omega
   clear hp
   go_upto_region 7 with fail
   go_cut [7] (fun s wx=> ∃pb,s= .pointer (some ⟨pb,0,none⟩)∧VB wx pb [.int .i64 p.1,.int .u32 (d6:Int),.int .i64 p.2,.int .u32 (d6:Int)]∧wr.heap.size≤pb∧Gr wr.heap.size wr wx)
   case first=>
    refine wp_region_held_drew (S:=(fun w'=>w'.cell? ⟨qb,0,none⟩=some (.slice (some ⟨g,0,none⟩) PT.length cp)∧w'.cell? ⟨g,i*2,none⟩=some (.int .i64 p.1)∧w'.cell? ⟨g,i*2+1,none⟩=some (.int .i64 p.2))) (by kernel_rfl) ?_ (fun hHeld=>?_)
    ·simp [go_sem, *]
    refine tq 0 23 (.pointer (some ⟨qb,0,none⟩)) ?_
    refine tq 1 24 (.slice (some ⟨g,0,none⟩) PT.length cp) ?_
    refine tq 2 25 (.int .i64 (i:Int)) ?_
    refine tq 3 26 (.pointer (some ⟨g,i*2,none⟩)) ?_
    refine tq 4 27 (.pointer (some ⟨g,i*2,none⟩)) ?_
    refine tq 5 28 (.int .i64 p.1) ?_
    refine tq 6 29 (.int .u32 (d6:Int)) ?_
    refine tq 7 30 (.agg #[.int .i64 p.1,.int .u32 (d6:Int)]) ?_
    refine tq 8 31 (.pointer (some ⟨qb,0,none⟩)) ?_
    refine tq 9 32 (.slice (some ⟨g,0,none⟩) PT.length cp) ?_
    refine tq 10 33 (.int .i64 (i:Int)) ?_
    refine tq 11 34 (.pointer (some ⟨g,i*2,none⟩)) ?_
    refine tq 12 35 (.pointer (some ⟨g,i*2+1,none⟩)) ?_
    refine tq 13 36 (.int .i64 p.2) ?_
    refine tq 14 37 (.int .u32 (d6:Int)) ?_
    refine tq 15 38 (.agg #[.int .i64 p.2,.int .u32 (d6:Int)]) ?_
    refine tq 16 39 (.agg #[.int .i64 p.1,.int .u32 (d6:Int),.int .i64 p.2,.int .u32 (d6:Int)]) ?_
    refine rd 17 (fun K hK=>?_)
    go_simp
    refine kO hK fun hQ1=>?_
    clear hK K hHeld
    refine rd 18 (fun K hK=>?_)
    go_simp
    refine kO hK fun hQ2=>?_
    clear hK K hQ1
    refine wpAnyH_done (by kernel_rfl) ?_ _
    go_wp2_with fail
    go_meet
    exact⟨_,rfl,by exact vbb,Nat.le_refl _,by exact gzz⟩
   case rest=>
    obtain ⟨wb,hwb⟩:∃q,q=wc:=⟨_,rfl⟩
    subst hwb
    obtain ⟨pb,rfl,hPB,hpb,hgb⟩:=hcut
    have hpv:∀g,(Value.slice aw ptl.length cw2).ownBlock=some g→g≠pb:=fun g e=>by have:=(own_sl HV.out g e).2;omega
    replace hpv:=Lh hpv
    have hpne:¬qb+1=pb:=by omega
    have hpne2:¬pb=qb+1:=by omega
    have hszb:=hgb.size
    replace HE:=Lh (HE.out.gr hgb hel)
    replace HV:=Lh (HV.out.gr hgb)
    replace HK:=Lh (HK.out.trans (hgb.kp _))
    have hpbl:=hPB.lt
    replace hel:qb+1<wb.heap.size:=by omega
    replace hszr:w2.heap.size≤wb.heap.size:=by omega
    obtain ⟨p0,p1,p2,p3⟩:wb.cell? ⟨pb,0,none⟩=some (.int .i64 p.1)∧wb.cell? ⟨pb,1,none⟩=some (.int .u32 (d6:Int))∧wb.cell? ⟨pb,2,none⟩=some (.int .i64 p.2)∧wb.cell? ⟨pb,3,none⟩=some (.int .u32 (d6:Int)):=⟨hPB.c 0 _ rfl,hPB.c 1 _ rfl,hPB.c 2 _ rfl,hPB.c 3 _ rfl⟩
    have HPB:=Lh hPB
    obtain ⟨s0,_,_,_,_,_⟩:=HE.out.three'
    clear hPB hgb u0 u1 b0 b1 b2 hglt hpb hszb HW hql
    go_upto_region 8 with fail
    refine wp_region_held_drew (S:=(fun w'=>w'.cell? ⟨pb,0,none⟩=some (.int .i64 p.1)∧w'.cell? ⟨pb,1,none⟩=some (.int .u32 (d6:Int))∧w'.cell? ⟨pb,2,none⟩=some (.int .i64 p.2)∧w'.cell? ⟨pb,3,none⟩=some (.int .u32 (d6:Int)))) (by kernel_rfl) ?_ (fun hHeld=>?_)
    ·simp [go_sem, *]
    refine tq 0 40 (.pointer (some ⟨qb+1,0,none⟩)) ?_
    refine tq 2 42 (.agg #[.int .i64 p.1,.int .u32 (d6:Int),.int .i64 p.2,.int .u32 (d6:Int)]) ?_
    refine rdZ 1 3 (fun K hK=>?_) (fun K hK=>?_)
    ·go_simp
     refine kO hK fun hQ1=>?_
     clear hK K hHeld
     refine wpAnyH_ready (rs:= [3]) (by kernel_rfl) (by simp) ?_
     refine AllReadyH.cons rfl (fun K hK=>?_) AllReadyH.nil
     go_simp
     (refine rtt (hPO.out _) fun w5 hsz5 hc5 hf5 HG5=>?_;(try simp at hsz5);have hy5_0:qb+1<w5.heap.size:=(by omega);have hy5_1:pb<w5.heap.size:=(by omega))
     refine kO hK fun hQ2=>?_
     clear hK K hQ1
     refine wpAnyH_ready (rs:= [4]) (by kernel_rfl) (by simp) ?_
     refine AllReadyH.cons rfl (fun K hK=>?_) AllReadyH.nil
     go_simp
     refine kO hK fun hQ3=>?_
     clear hK K hQ2
     refine rd 5 (fun K hK=>?_)
     rw [if_pos (by rfl)]
     refine wp_appS _ _ _ 31 rfl w2.heap.size i1 _ 112 Tryz.underlying31 HI1.out.1 HI1.out.2.1 HI1.out.2.2.1 HI1.out.2.2.2 rfl (by decide) pC_len pC_one (.slice aw ptl.length cw2) ptl rfl (HV.out.gr (by exact gcc HG5 gzz)) w5.heap.size 1 [pt] 1 rfl rfl (by first|exact RC.new1 rfl|exact RC.drew (RC.new1 rfl)) (by unfold maxLen;simp;omega) (by simp;omega) (by simp;omega) ?_
     intro v6 w6 hS6 hkp6 _
     have HE6:=Lh ((HE.out.gr (show Gr wb.heap.size wb _ from by exact gcc HG5 gzz) hel).kp hkp6 (fun e=>by have:=HV.out.own_ge e.symm;omega))
     have HPB6:=(HPB.out.gr (show Gr wb.heap.size wb _ from by exact gcc HG5 gzz) hpbl).kp hkp6 (fun e=>hpv.out pb e.symm rfl)
     have HK6:=Lh ((HK.out.trans ((show Gr wb.heap.size wb _ from by exact gcc HG5 gzz).kp _)).far hkp6 (fun g e=>HV.out.own_ge e))
     obtain ⟨pa6,pc6,e6⟩:=hS6.at
     obtain ⟨n6,hn6⟩:∃n,(ptl++ [pt]).length=n:=⟨_,rfl⟩
     rw [hn6]at e6
     subst e6
     have HS6':=Lh hS6
     clear hn6 hS6
     refine hK.out _ _ ?_ (fun hQ9=>?_)
     ·exact⟨HPB6.c 0 _ rfl,HPB6.c 1 _ rfl,HPB6.c 2 _ rfl,HPB6.c 3 _ rfl⟩
     clear hK K hQ3 hkp6
     try simp only [pS]
     have z0:=HE6.out.c 0 _ rfl
     have z1:=HE6.out.f 0 (by simp)
     refine tq 6 46 (.pointer (some ⟨qb+1,0,none⟩)) ?_
     refine rd 7 (fun K hK=>?_)
     go_simp
     refine kO hK fun hQ10=>?_
     clear hK K hQ9
     refine wpAnyH_done (by kernel_rfl) ?_ _
     go_wp2
     go_roundw
     case rel=>
      have k1:Kp w6 (w6.setCell ⟨qb+1,0,none⟩ (.slice pa6 n6 pc6)) (some (qb+1)):=Kp.sets w6 (qb+1) 0 [.slice pa6 n6 pc6]
      exact⟨i+1,.slice pa6 n6 pc6,by omega,by go_num,Lh (HE6.out.one 0 _ (by simp)),Lh (by rw [hps.out];exact k1.sl HS6'.out (fun g e e2=>by have:=HS6'.out.own_ge e;have:=Option.some.inj e2;omega)),Lh (HK6.out.trans k1)⟩
     case measure=>simp [intOf];omega
    ·go_simp
     (refine rtt (hPO.out _) fun w5 hsz5 hc5 hf5 HG5=>?_;(try simp at hsz5);have hy5_0:qb+1<w5.heap.size:=(by omega);have hy5_1:pb<w5.heap.size:=(by omega))
     refine kO hK fun hQ1=>?_
     clear hK K hHeld
     refine rdZ 1 4 (fun K hK=>?_) (fun K hK=>?_)
     ·go_simp
      refine kO hK fun hQ2=>?_
      clear hK K hQ1
      refine wpAnyH_ready (rs:= [4]) (by kernel_rfl) (by simp) ?_
      refine AllReadyH.cons rfl (fun K hK=>?_) AllReadyH.nil
      go_simp
      refine kO hK fun hQ3=>?_
      clear hK K hQ2
      refine rd 5 (fun K hK=>?_)
      rw [if_pos (by rfl)]
      refine wp_appS _ _ _ 31 rfl w2.heap.size i1 _ 112 Tryz.underlying31 HI1.out.1 HI1.out.2.1 HI1.out.2.2.1 HI1.out.2.2.2 rfl (by decide) pC_len pC_one (.slice aw ptl.length cw2) ptl rfl (HV.out.gr (by exact gcc HG5 gzz)) w5.heap.size 1 [pt] 1 rfl rfl (by first|exact RC.new1 rfl|exact RC.drew (RC.new1 rfl)) (by unfold maxLen;simp;omega) (by simp;omega) (by simp;omega) ?_
      intro v6 w6 hS6 hkp6 _
      have HE6:=Lh ((HE.out.gr (show Gr wb.heap.size wb _ from by exact gcc HG5 gzz) hel).kp hkp6 (fun e=>by have:=HV.out.own_ge e.symm;omega))
      have HPB6:=(HPB.out.gr (show Gr wb.heap.size wb _ from by exact gcc HG5 gzz) hpbl).kp hkp6 (fun e=>hpv.out pb e.symm rfl)
      have HK6:=Lh ((HK.out.trans ((show Gr wb.heap.size wb _ from by exact gcc HG5 gzz).kp _)).far hkp6 (fun g e=>HV.out.own_ge e))
      obtain ⟨pa6,pc6,e6⟩:=hS6.at
      obtain ⟨n6,hn6⟩:∃n,(ptl++ [pt]).length=n:=⟨_,rfl⟩
      rw [hn6]at e6
      subst e6
      have HS6':=Lh hS6
      clear hn6 hS6
      refine hK.out _ _ ?_ (fun hQ9=>?_)
      ·exact⟨HPB6.c 0 _ rfl,HPB6.c 1 _ rfl,HPB6.c 2 _ rfl,HPB6.c 3 _ rfl⟩
      clear hK K hQ3 hkp6
      try simp only [pS]
      have z0:=HE6.out.c 0 _ rfl
      have z1:=HE6.out.f 0 (by simp)
      refine tq 6 46 (.pointer (some ⟨qb+1,0,none⟩)) ?_
      refine rd 7 (fun K hK=>?_)
      go_simp
      refine kO hK fun hQ10=>?_
      clear hK K hQ9
      refine wpAnyH_done (by kernel_rfl) ?_ _
      go_wp2
      go_roundw
      case rel=>
       have k1:Kp w6 (w6.setCell ⟨qb+1,0,none⟩ (.slice pa6 n6 pc6)) (some (qb+1)):=Kp.sets w6 (qb+1) 0 [.slice pa6 n6 pc6]
       exact⟨i+1,.slice pa6 n6 pc6,by omega,by go_num,Lh (HE6.out.one 0 _ (by simp)),Lh (by rw [hps.out];exact k1.sl HS6'.out (fun g e e2=>by have:=HS6'.out.own_ge e;have:=Option.some.inj e2;omega)),Lh (HK6.out.trans k1)⟩
      case measure=>simp [intOf];omega
     ·go_simp
      refine kO hK fun hQ2=>?_
      clear hK K hQ1
      refine wpAnyH_ready (rs:= [1]) (by kernel_rfl) (by simp) ?_
      refine AllReadyH.cons rfl (fun K hK=>?_) AllReadyH.nil
      go_simp
      refine kO hK fun hQ3=>?_
      clear hK K hQ2
      refine rd 5 (fun K hK=>?_)
      rw [if_pos (by rfl)]
      refine wp_appS _ _ _ 31 rfl w2.heap.size i1 _ 112 Tryz.underlying31 HI1.out.1 HI1.out.2.1 HI1.out.2.2.1 HI1.out.2.2.2 rfl (by decide) pC_len pC_one (.slice aw ptl.length cw2) ptl rfl (HV.out.gr (by exact gcc HG5 gzz)) w5.heap.size 1 [pt] 1 rfl rfl (by first|exact RC.new1 rfl|exact RC.drew (RC.new1 rfl)) (by unfold maxLen;simp;omega) (by simp;omega) (by simp;omega) ?_
      intro v6 w6 hS6 hkp6 _
      have HE6:=Lh ((HE.out.gr (show Gr wb.heap.size wb _ from by exact gcc HG5 gzz) hel).kp hkp6 (fun e=>by have:=HV.out.own_ge e.symm;omega))
      have HPB6:=(HPB.out.gr (show Gr wb.heap.size wb _ from by exact gcc HG5 gzz) hpbl).kp hkp6 (fun e=>hpv.out pb e.symm rfl)
      have HK6:=Lh ((HK.out.trans ((show Gr wb.heap.size wb _ from by exact gcc HG5 gzz).kp _)).far hkp6 (fun g e=>HV.out.own_ge e))
      obtain ⟨pa6,pc6,e6⟩:=hS6.at
      obtain ⟨n6,hn6⟩:∃n,(ptl++ [pt]).length=n:=⟨_,rfl⟩
      rw [hn6]at e6
      subst e6
      have HS6':=Lh hS6
      clear hn6 hS6
      refine hK.out _ _ ?_ (fun hQ9=>?_)
      ·exact⟨HPB6.c 0 _ rfl,HPB6.c 1 _ rfl,HPB6.c 2 _ rfl,HPB6.c 3 _ rfl⟩
      clear hK K hQ3 hkp6
      try simp only [pS]
      have z0:=HE6.out.c 0 _ rfl
      have z1:=HE6.out.f 0 (by simp)
      refine tq 6 46 (.pointer (some ⟨qb+1,0,none⟩)) ?_
      refine rd 7 (fun K hK=>?_)
      go_simp
      refine kO hK fun hQ10=>?_
      clear hK K hQ9
      refine wpAnyH_done (by kernel_rfl) ?_ _
      go_wp2
      go_roundw
      case rel=>
       have k1:Kp w6 (w6.setCell ⟨qb+1,0,none⟩ (.slice pa6 n6 pc6)) (some (qb+1)):=Kp.sets w6 (qb+1) 0 [.slice pa6 n6 pc6]
       exact⟨i+1,.slice pa6 n6 pc6,by omega,by go_num,Lh (HE6.out.one 0 _ (by simp)),Lh (by rw [hps.out];exact k1.sl HS6'.out (fun g e e2=>by have:=HS6'.out.own_ge e;have:=Option.some.inj e2;omega)),Lh (HK6.out.trans k1)⟩
      case measure=>simp [intOf];omega
  ·have hil:i=PT.length:=by omega
   subst hil
   have hptl2:ptl=PT.map (ptq d6):=by rw [←hptl.out,List.take_length]
   have HPX:=Lh hptl2
   clear hptl2
   obtain ⟨s0,s1,s2,f0,f1,f2⟩:=HE.out.three'
   go_wp2
   have k9:Kp wr (wr.setCell ⟨qb+1,1,none⟩ (.slice at_ TR.length ct)) (some (qb+1)):=Kp.sets wr (qb+1) 1 [.slice at_ TR.length ct]
   have HE3:=Lh (show VB (wr.setCell ⟨qb+1,1,none⟩ (.slice at_ TR.length ct)) (qb+1) [.slice aw ptl.length cw2,.slice at_ TR.length ct,.slice none 0 0]from HE.out.one 1 _ (by simp))
   have HV3:=Lh (k9.sl HV.out (fun g e e2=>by have:=HV.out.own_ge e;have:=Option.some.inj e2;omega))
   have HW3:=Lh (HW.out.kp k9 (fun e=>by have:=Option.some.inj e;omega))
   have HK3:=Lh (HK.out.trans k9)
   have hsz3:(wr.setCell ⟨qb+1,1,none⟩ (.slice at_ TR.length ct)).heap.size=wr.heap.size:=by simp
   clear HE HV HW HK k9 s0 s1 s2 f0 f1 f2 b0 b1 b2
   generalize wr.setCell ⟨qb+1,1,none⟩ (.slice at_ TR.length ct)=w3 at *
   have he3:=HE3.out.lt
   have hq3:=HW3.out.lt
   have HS3:=Lh (HK3.out.sl HS.out (fun g e e2=>by have:=oS g e;have:=Option.some.inj e2;omega))
   go_loopw [8] (fun s wr=> ∃(j:Nat) (ss:Value),j≤SD.length∧s= .int .i64 j∧Hid (VB wr (qb+1) [.slice aw ptl.length cw2,.slice at_ TR.length ct,ss])∧Hid (SL triC 3 123 wr w3.heap.size ss (SD.take j))∧Hid (Kp w3 wr (some (qb+1)))) (fun s _=>SD.length - (intOf s).toNat)
   case atStart=>exact⟨0,_,Nat.zero_le _,rfl,HE3,Lh SL.nil,Lh ((Gr.refl _ _).kp _)⟩
   case round=>
    clear HE3
    obtain ⟨j,ss,hj,rfl,HE,HL,HK⟩:=hrel
    have hszj:=HK.out.g.size
    obtain ⟨sdl,hsdl⟩:∃q,SD.take j=q:=⟨_,rfl⟩
    rw [hsdl]at HL
    have hsdb:sdl.length≤50000:=by rw [←hsdl];simp;omega
    replace hsdl:=Lh hsdl
    obtain ⟨asd,csd,rfl⟩:=HL.out.at
    have HWJ:=Lh (HW3.out.kp HK.out (fun e=>by have:=Option.some.inj e;omega))
    have hel:=HE.out.lt
    have hql:=HWJ.out.lt
    obtain ⟨b0,b1,b2,_⟩:=HWJ.out.three'
    have HSJ:=Lh (HK.out.sl HS3.out (fun g e e2=>by have:=oS g e;have:=Option.some.inj e2;omega))
    by_cases hlt:j<SD.length
    ·have q0:(j:Int)<(SD.length:Int):=by omega
     obtain ⟨tt,htt⟩:∃x,SD[j]=x:=⟨_,rfl⟩
     have hss:Hid (SD.take (j+1)=sdl++ [tt]):=Lh (by rw [List.take_add_one,List.getElem?_eq_getElem hlt,htt,hsdl.out];rfl)
     obtain ⟨g,cap',e4,hgB,_,_,hsh,hR⟩:=HSJ.out.sr.block (by intro e;rw [e]at hlt;simp at hlt)
     injection e4 with e4 _ e5
     subst e4 e5
     have hglt:=hsh.lt
     obtain ⟨u0,u1,u2⟩:=hR.fTri hlt htt
     clear hR hsh
     have htt2:=Lh htt
     clear htt
     obtain ⟨x,y,zz⟩:=tt
     dsimp only at u0 u1 u2
     have q6:IntKind.i64.wrap ((j:Int)+1)=((j+1:Nat):Int):=by rw [wrap64_id (by omega) (by omega)];omega
     obtain ⟨s0,s1,s2,f0,f1,f2⟩:=HE.out.three'
     have hgq:¬qb+1=g:=fun e=>by have:=oS g rfl;omega
     have hgq2:¬g=qb+1:=fun e=>hgq e.symm
     go_upto_region 13 with fail
     refine wp_region_held_drew (S:=(fun w'=>w'.cell? ⟨qb,2,none⟩=some (.slice (some ⟨g,0,none⟩) SD.length cs)∧w'.cell? ⟨g,j*3,none⟩=some (.int .i64 (x:Int))∧w'.cell? ⟨g,j*3+1,none⟩=some (.int .i64 (y:Int))∧w'.cell? ⟨g,j*3+2,none⟩=some (.int .i64 (zz:Int)))) (by kernel_rfl) ?_ (fun hHeld=>?_)
     ·simp [go_sem, *]
     refine tq 0 57 (.pointer (some ⟨qb+1,2,none⟩)) ?_
     refine tq 2 59 (.pointer (some ⟨qb,2,none⟩)) ?_
     refine tq 3 60 (.slice (some ⟨g,0,none⟩) SD.length cs) ?_
     refine tq 4 61 (.int .i64 (j:Int)) ?_
     refine tq 5 62 (.pointer (some ⟨g,j*3,none⟩)) ?_
     refine tq 6 63 (.pointer (some ⟨g,j*3,none⟩)) ?_
     refine tq 7 64 (.int .i64 (x:Int)) ?_
     refine tq 8 65 (.pointer (some ⟨qb,2,none⟩)) ?_
     refine tq 9 66 (.slice (some ⟨g,0,none⟩) SD.length cs) ?_
     refine tq 10 67 (.int .i64 (j:Int)) ?_
     refine tq 11 68 (.pointer (some ⟨g,j*3,none⟩)) ?_
     refine tq 12 69 (.pointer (some ⟨g,j*3+1,none⟩)) ?_
     refine tq 13 70 (.int .i64 (y:Int)) ?_
     refine tq 14 71 (.pointer (some ⟨qb,2,none⟩)) ?_
     refine tq 15 72 (.slice (some ⟨g,0,none⟩) SD.length cs) ?_
     refine tq 16 73 (.int .i64 (j:Int)) ?_
     refine tq 17 74 (.pointer (some ⟨g,j*3,none⟩)) ?_
     refine tq 18 75 (.pointer (some ⟨g,j*3+2,none⟩)) ?_
     refine tq 19 76 (.int .i64 (zz:Int)) ?_
     refine tq 20 77 (.agg #[.int .i64 (x:Int),.int .i64 (y:Int),.int .i64 (zz:Int)]) ?_
     refine rdZ 1 21 (fun K hK=>?_) (fun K hK=>?_)
     ·go_simp
      refine kO hK fun hQ1=>?_
      clear hK K hHeld
      refine wpAnyH_ready (rs:= [21]) (by kernel_rfl) (by simp) ?_
      refine AllReadyH.cons rfl (fun K hK=>?_) AllReadyH.nil
      go_simp
      refine kO hK fun hQ2=>?_
      clear hK K hQ1
      refine rd 22 (fun K hK=>?_)
      rw [if_pos (by rfl)]
      refine wp_appS _ _ _ 33 rfl w3.heap.size i3 _ 24 Tryz.underlying33 HI3.out.1 HI3.out.2.1 HI3.out.2.2.1 HI3.out.2.2.2 rfl (by decide) triC_len triC_one (.slice asd sdl.length csd) sdl rfl (HL.out.gr (by exact gzz)) wr.heap.size 1 [(x,y,zz)] 1 rfl rfl (by first|exact RC.new1 rfl|exact RC.drew (RC.new1 rfl)|exact RC.new1' (by simp) rfl|exact RC.drew (RC.new1' (by simp) rfl)) (by unfold maxLen;simp;omega) (by simp;omega) (by simp;omega) ?_
      intro v6 w6 hS6 hkp6 _
      have HE6:=Lh ((HE.out.gr (show Gr wr.heap.size wr _ from by exact gzz) hel).kp hkp6 (fun e=>by have:=HL.out.own_ge e.symm;omega))
      have HW6:=(HWJ.out.gr (show Gr wr.heap.size wr _ from by exact gzz) hql).kp hkp6 (fun e=>by have:=HL.out.own_ge e.symm;omega)
      obtain ⟨g',cap9,e9,_,_,_,_,hR9⟩:=(hkp6.sl (HSJ.out.gr (show Gr wr.heap.size wr _ from by exact gzz)) (fun g e e2=>by have:=oS g e;have:=HL.out.own_ge e2.symm;omega)).sr.block (by intro e;rw [e]at hlt;simp at hlt)
      injection e9 with e9 e10 e11
      injection e9 with e9
      injection e9 with e9
      subst e9 e11
      clear e10
      obtain ⟨a0,a1,a2⟩:=hR9.fTri hlt htt2.out
      have HK6:=Lh ((HK.out.trans ((show Gr wr.heap.size wr _ from by exact gzz).kp _)).far hkp6 (fun g e=>HL.out.own_ge e))
      obtain ⟨pa6,pc6,e6⟩:=hS6.at
      obtain ⟨n6,hn6⟩:∃n,(sdl++ [(x,y,zz)]).length=n:=⟨_,rfl⟩
      rw [hn6]at e6
      subst e6
      have HS6':=Lh hS6
      clear hn6 hS6 hR9
      refine hK.out _ _ ?_ (fun hQ9=>?_)
      ·exact⟨HW6.c 2 _ rfl,a0,a1,a2⟩
      clear hK K hQ2 hkp6
      try simp only [pS]
      have z0:=HE6.out.c 2 _ rfl
      have z1:=HE6.out.f 2 (by simp)
      refine tq 23 80 (.pointer (some ⟨qb+1,2,none⟩)) ?_
      refine rd 24 (fun K hK=>?_)
      go_simp
      refine kO hK fun hQ10=>?_
      clear hK K hQ9
      refine wpAnyH_done (by kernel_rfl) ?_ _
      go_wp2
      go_roundw
      case rel=>
       have k1:Kp w6 (w6.setCell ⟨qb+1,2,none⟩ (.slice pa6 n6 pc6)) (some (qb+1)):=Kp.sets w6 (qb+1) 2 [.slice pa6 n6 pc6]
       exact⟨j+1,.slice pa6 n6 pc6,by omega,by go_num,Lh (HE6.out.one 2 _ (by simp)),Lh (by rw [hss.out];exact k1.sl HS6'.out (fun g e e2=>by have:=HS6'.out.own_ge e;have:=Option.some.inj e2;omega)),Lh (HK6.out.trans k1)⟩
      case measure=>simp [intOf];omega
     ·go_simp
      refine kO hK fun hQ1=>?_
      clear hK K hHeld
      refine wpAnyH_ready (rs:= [1]) (by kernel_rfl) (by simp) ?_
      refine AllReadyH.cons rfl (fun K hK=>?_) AllReadyH.nil
      go_simp
      refine kO hK fun hQ2=>?_
      clear hK K hQ1
      refine rd 22 (fun K hK=>?_)
      rw [if_pos (by rfl)]
      refine wp_appS _ _ _ 33 rfl w3.heap.size i3 _ 24 Tryz.underlying33 HI3.out.1 HI3.out.2.1 HI3.out.2.2.1 HI3.out.2.2.2 rfl (by decide) triC_len triC_one (.slice asd sdl.length csd) sdl rfl (HL.out.gr (by exact gzz)) wr.heap.size 1 [(x,y,zz)] 1 rfl rfl (by first|exact RC.new1 rfl|exact RC.drew (RC.new1 rfl)|exact RC.new1' (by simp) rfl|exact RC.drew (RC.new1' (by simp) rfl)) (by unfold maxLen;simp;omega) (by simp;omega) (by simp;omega) ?_
      intro v6 w6 hS6 hkp6 _
      have HE6:=Lh ((HE.out.gr (show Gr wr.heap.size wr _ from by exact gzz) hel).kp hkp6 (fun e=>by have:=HL.out.own_ge e.symm;omega))
      have HW6:=(HWJ.out.gr (show Gr wr.heap.size wr _ from by exact gzz) hql).kp hkp6 (fun e=>by have:=HL.out.own_ge e.symm;omega)
      obtain ⟨g',cap9,e9,_,_,_,_,hR9⟩:=(hkp6.sl (HSJ.out.gr (show Gr wr.heap.size wr _ from by exact gzz)) (fun g e e2=>by have:=oS g e;have:=HL.out.own_ge e2.symm;omega)).sr.block (by intro e;rw [e]at hlt;simp at hlt)
      injection e9 with e9 e10 e11
      injection e9 with e9
      injection e9 with e9
      subst e9 e11
      clear e10
      obtain ⟨a0,a1,a2⟩:=hR9.fTri hlt htt2.out
      have HK6:=Lh ((HK.out.trans ((show Gr wr.heap.size wr _ from by exact gzz).kp _)).far hkp6 (fun g e=>HL.out.own_ge e))
      obtain ⟨pa6,pc6,e6⟩:=hS6.at
      obtain ⟨n6,hn6⟩:∃n,(sdl++ [(x,y,zz)]).length=n:=⟨_,rfl⟩
      rw [hn6]at e6
      subst e6
      have HS6':=Lh hS6
      clear hn6 hS6 hR9
      refine hK.out _ _ ?_ (fun hQ9=>?_)
      ·exact⟨HW6.c 2 _ rfl,a0,a1,a2⟩
      clear hK K hQ2 hkp6
      try simp only [pS]
      have z0:=HE6.out.c 2 _ rfl
      have z1:=HE6.out.f 2 (by simp)
      refine tq 23 80 (.pointer (some ⟨qb+1,2,none⟩)) ?_
      refine rd 24 (fun K hK=>?_)
      go_simp
      refine kO hK fun hQ10=>?_
      clear hK K hQ9
      refine wpAnyH_done (by kernel_rfl) ?_ _
      go_wp2
      go_roundw
      case rel=>
       have k1:Kp w6 (w6.setCell ⟨qb+1,2,none⟩ (.slice pa6 n6 pc6)) (some (qb+1)):=Kp.sets w6 (qb+1) 2 [.slice pa6 n6 pc6]
       exact⟨j+1,.slice pa6 n6 pc6,by omega,by go_num,Lh (HE6.out.one 2 _ (by simp)),Lh (by rw [hss.out];exact k1.sl HS6'.out (fun g e e2=>by have:=HS6'.out.own_ge e;have:=Option.some.inj e2;omega)),Lh (HK6.out.trans k1)⟩
      case measure=>simp [intOf];omega
    ·have hjl:j=SD.length:=by omega
     subst hjl
     have hsd2:sdl=SD:=by rw [←hsdl.out,List.take_length]
     have HSD:=Lh hsd2
     clear hsd2
     obtain ⟨s0,s1,s2,f0,f1,f2⟩:=HE.out.three'
     have hrb:w.heap.size+1<qb:=by omega
     have HR4:=Lh ((HR.out.kp HK3.out (fun e=>by have:=Option.some.inj e;omega)).kp HK.out (fun e=>by have:=Option.some.inj e;omega))
     obtain ⟨r0,r1,r2,g0,g1,g2⟩:=HR4.out.three'
     have hrl:=HR4.out.lt
     have hV4:=Lh (HK.out.sl HV3.out (fun g e e2=>by have:=HV3.out.own_ge e;have:=Option.some.inj e2;omega))
     have hT4:=Lh (HK.out.sl (HK3.out.sl HT.out (fun g e e2=>by have:=oT g e;have:=Option.some.inj e2;omega)) (fun g e e2=>by have:=oT g e;have:=Option.some.inj e2;omega))
     have hG4:=Lh ((HG1.out.trans (HK3.out.gr (B:=w.heap.size) (fun b e=>by have:=Option.some.inj e;omega) HG1.out.size)).trans (HK.out.gr (B:=w.heap.size) (fun b e=>by have:=Option.some.inj e;omega) (by omega)))
     go_wp2
     refine ret_row (g:=w.heap.size+1) (cs:= [.slice aw ptl.length cw2,.slice at_ TR.length ct,.slice asd sdl.length csd]) Tryz.results20 rfl ?_ Tryz.underlying35 rfl info_Mesh rfl ⟨_,_,_,rfl,⟨?_,?_,?_⟩,?_⟩
     ·(with_reducible (repeat' (first|(refine VB.new' ?_;exact(by first|omega|(simp;done)|(simp;omega)))|apply VB.put2|apply VB.put3|apply VB.put5|refine VB.drew ?_|refine VB.far ?_ ?_ _|refine VB.alloc ?_ _|exact HR4.out|omega|(simp;done)|(simp;omega))))
     ·rw [←HPX.out];exact(SL.mono (SL.far (SL.far (SL.far hV4.out (by simp;omega) _) (by simp;omega) _) (by simp;omega) _) (by omega)).sr
     ·exact(SL.mono (SL.far (SL.far (SL.far hT4.out (by simp) _) (by simp) _) (by simp) _) (by omega)).sr
     ·rw [←HSD.out];exact(SL.mono (SL.far (SL.far (SL.far HL.out (by simp;omega) _) (by simp;omega) _) (by simp;omega) _) (by omega)).sr
     ·exact gcc hG4 gzz
end Go.Proofs.YtfgmdhjmgdccdaaGreat
namespace Go.Proofs.YtfgmdhjmgdccdaaGreat
open Go.RowKit Gus Go.Maps
theorem cellK_low {k x y:Nat} {t:T2} (ht:t∈cellK k x y) (hx:x≤10) (hy:y≤10):∀q,hasP t q=true→q.1≤12∧q.2≤12:=by
 intro q hq
 unfold hasP at hq
 simp only [Bool.or_eq_true,beq_iff_eq]at hq
 unfold cellK at ht
 split at ht<;>simp only [List.mem_cons,List.not_mem_nil,or_false]at ht
 ·rcases ht with rfl|rfl<;>rcases hq with(rfl|rfl)|rfl<;>(simp only;omega)
 ·rcases ht with rfl|rfl<;>rcases hq with(rfl|rfl)|rfl<;>(simp only;omega)
 ·rcases ht with rfl|rfl|rfl|rfl<;>rcases hq with(rfl|rfl)|rfl<;>(simp only;omega)
theorem cells_low {nx ny:Nat} (way:Nat→Nat) (hx:nx≤3) (hy:ny≤3):∀t∈cellsL nx ny way,∀q,hasP t q=true→q.1≤60∧q.2≤60:=by
 intro t ht q hq
 unfold cellsL at ht
 rw [List.mem_flatMap]at ht
 obtain ⟨i,hi,ht⟩:=ht
 obtain ⟨h1,h2⟩:=cell_at hx hy (List.mem_range.1 hi)
 have:=cellK_low ht (by omega) (by omega) q hq
 omega
theorem cells_one {nx ny:Nat} (way:Nat→Nat) (h:∀i,way i<8) (hx:0<nx) (hy:0<ny):cellsL nx ny way≠ []:=by
 have h0:0∈List.range (nx*ny):=List.mem_range.2 (Nat.mul_pos hx hy)
 have h1:kindW (way 0) 0<3:=by
  have:=h 0
  unfold kindW
  split
  ·omega
  ·split
   ·omega
   ·split<;>omega
 intro e
 unfold cellsL at e
 rw [List.flatMap_eq_nil_iff]at e
 have h2:=e 0 h0
 generalize kindW (way 0) 0=k at *
 rcases(show k=0∨k=1∨k=2 by omega)with rfl|rfl|rfl<;>simp [cellK]at h2
theorem cells_len {nx ny:Nat} (way:Nat→Nat) (hx:nx≤3) (hy:ny≤3):(cellsL nx ny way).length≤36:=by
 have h:=cellsTo_len nx way (nx*ny)
 have h2:nx*ny≤3*3:=Nat.mul_le_mul hx hy
 unfold cellsTo at h
 unfold cellsL
 omega
theorem corners_mem (L:List T2) (q:P2):q∈cornersOf L↔∃t∈L,hasP t q=true:=by
 unfold cornersOf hasP
 rw [List.mem_flatMap]
 simp only [List.mem_cons,List.not_mem_nil,or_false,Bool.or_eq_true,beq_iff_eq,or_assoc]
 constructor
 ·rintro ⟨t,ht,h⟩
  exact⟨t,ht,by rcases h with h|h|h<;>simp [h]⟩
 ·rintro ⟨t,ht,h⟩
  exact⟨t,ht,by rcases h with h|h|h<;>simp [h]⟩
theorem net_of {nx ny:Nat} {way r:Nat→Nat} (h:∀i,way i<8) (hx0:0<nx) (hy0:0<ny) (hx:nx≤3) (hy:ny≤3):Net (placesOf (cornersOf (turned r (cellsL nx ny way)))) (turned r (cellsL nx ny way)):=by
 have hlen:(turned r (cellsL nx ny way)).length≤36:=by unfold turned;rw [List.length_mapIdx];exact cells_len way hx hy
 refine⟨places_nodup _,turned_pair (cells_pair way hx hy),turned_all (p:=fun t=>posB t=true) (fun t j ht=>by rw [posB_rot];exact ht) (cells_pos way hx hy),fun q=>?_,fun q hq=>?_,?_,hlen,?_⟩
 ·rw [places_mem,corners_mem]
 ·rw [places_mem,corners_mem]at hq
  obtain ⟨t,ht,h1⟩:=hq
  exact turned_all (p:=fun t=> ∀q,hasP t q=true→q.1≤60∧q.2≤60) (fun t j h2 q h3=>h2 q (by rwa [hasP_rot]at h3)) (cells_low way hx hy) t ht q h1
 ·intro e
  have h1:=congrArg List.length e
  unfold turned at h1
  rw [List.length_mapIdx]at h1
  exact cells_one way h hx0 hy0 (List.eq_nil_of_length_eq_zero (by simpa using h1))
 ·have h1:=places_len (cornersOf (turned r (cellsL nx ny way)))
  rw [corners_len]at h1
  omega
theorem rowS_mem (TR:List Tri) (f a b:Nat) (s:Tri):s∈rowS TR f a b↔∃c,c<b∧a<c∧TR.countP (fun t=>has3 t a && has3 t c)=1∧s=(a,c,(a+3*c+f) % 5):=by
 unfold rowS
 simp only [List.mem_map,List.mem_filter,List.mem_range,Bool.and_eq_true,decide_eq_true_eq,beq_iff_eq]
 constructor
 ·rintro ⟨c,⟨h1,h2,h3⟩,rfl⟩
  exact⟨c,h1,h2,h3,rfl⟩
 ·rintro ⟨c,h1,h2,h3,rfl⟩
  exact⟨c,⟨h1,h2,h3⟩,rfl⟩
theorem sdTo_mem (TR:List Tri) (f N a:Nat) (s:Tri):s∈sdTo TR f N a↔∃i c,i<a∧c<N∧i<c∧TR.countP (fun t=>has3 t i && has3 t c)=1∧s=(i,c,(i+3*c+f) % 5):=by
 unfold sdTo
 rw [List.mem_flatMap]
 constructor
 ·rintro ⟨i,hi,h⟩
  obtain ⟨c,h1,h2,h3,h4⟩:=(rowS_mem TR f i N s).1 h
  exact⟨i,c,List.mem_range.1 hi,h1,h2,h3,h4⟩
 ·rintro ⟨i,c,hi,h1,h2,h3,h4⟩
  exact⟨i,List.mem_range.2 hi,(rowS_mem TR f i N s).2 ⟨c,h1,h2,h3,h4⟩⟩
theorem rimOk_sd {N:Nat} {TR:List Tri} (hl:∀t∈TR,goodT N t) (f:Nat):RimOk TR (sdTo TR f N N):=by
 constructor
 ·rw [List.pairwise_map]
  unfold sdTo
  rw [List.pairwise_flatMap]
  constructor
  ·intro i _
   unfold rowS
   rw [List.pairwise_map]
   refine List.Pairwise.imp ?_ (List.Pairwise.filter _ List.pairwise_lt_range)
   intro a b hab
   exact .inr ⟨rfl,by simp only;omega⟩
  ·refine List.Pairwise.imp ?_ List.pairwise_lt_range
   intro i j hij s hs s' hs'
   obtain ⟨c,_,_,_,rfl⟩:=(rowS_mem TR f i N s).1 hs
   obtain ⟨c',_,_,_,rfl⟩:=(rowS_mem TR f j N s').1 hs'
   exact .inl (by simp only;omega)
 ·intro a b
  constructor
  ·intro h
   obtain ⟨s,hs,h1⟩:=List.mem_map.1 h
   obtain ⟨i,c,h2,h3,h4,h5,rfl⟩:=(sdTo_mem TR f N N s).1 hs
   simp only [Prod.mk.injEq]at h1
   obtain rfl:i=a:=by omega
   obtain rfl:c=b:=by omega
   exact⟨h4,h5⟩
  ·rintro ⟨hab,hc⟩
   have h1:0<TR.countP fun t=>has3 t a && has3 t b:=by omega
   rw [List.countP_pos_iff]at h1
   obtain ⟨t,ht,h2⟩:=h1
   obtain ⟨g1,g2,g3,_⟩:=hl t ht
   unfold has3 at h2
   simp only [Bool.and_eq_true,Bool.or_eq_true,beq_iff_eq]at h2
   have hbN:b<N:=by omega
   exact List.mem_map.2 ⟨(a,b,(a+3*b+f) % 5),(sdTo_mem TR f N N _).2 ⟨a,b,by omega,hbN,hab,hc,rfl⟩,rfl⟩
end Go.Proofs.YtfgmdhjmgdccdaaGreat
namespace Go.Proofs.YtfgmdhjmgdccdaaGreat
open Go.RowKit Gus Go.Maps
structure RawM where
 nx:Nat
 ny:Nat
 den:Nat
 fi:Nat
 m0:Int
 m1:Int
 m2:Int
 m3:Int
 bs:List Nat
structure RawM.Ok (x:RawM):Prop where
 nx:x.nx<256
 ny:x.ny<256
 den:x.den<256
 fi:x.fi<256
 bs:∀b∈x.bs,b<256
def RawM.cells (x:RawM):List T2:=cellsL (1+x.nx % 3) (1+x.ny % 3) (wayOf x.bs)
def RawM.L (x:RawM):List T2:=turned (fun t=>x.fi+t*(x.fi / 3)) x.cells
def RawM.P (x:RawM):List P2:=placesOf (cornersOf x.L)
def RawM.k (x:RawM):K4:=mapK x.m0 x.m1 x.m2 x.m3
def RawM.d (x:RawM):Nat:=1+x.den % 6
def RawM.tris (x:RawM):List Tri:=x.L.map (triOf x.P)
def RawM.sd (x:RawM):List Tri:=sdTo x.tris x.fi x.P.length x.P.length
def RawM.mesh (x:RawM):Msh:=meshOf x.k x.d x.P x.L x.sd
abbrev rawC (x:RawM) (v:Value):List Value:= [.int .u8 (x.nx:Int),.int .u8 (x.ny:Int),v,.int .i8 x.m0,.int .i8 x.m1,.int .i8 x.m2,.int .i8 x.m3,.int .u8 (x.den:Int),.int .u8 (x.fi:Int)]
theorem RawM.net (x:RawM):Net x.P x.L:=net_of (way_lt x.bs) (by omega) (by omega) (by omega) (by omega)
theorem RawM.det (x:RawM):0<det4 x.k:=det_kfix _ _ _ _
theorem RawM.smallK (x:RawM):smallK x.k:=by
 have h:=kfix_small (tmod4_small x.m0) (tmod4_small x.m1) (tmod4_small x.m2) (tmod4_small x.m3)
 unfold small at h
 obtain ⟨h1,h2,h3,h4⟩:=h
 refine⟨?_,?_,?_,?_⟩<;>(unfold RawM.k mapK;omega)
theorem RawM.d_pos (x:RawM):0<x.d∧x.d<4294967296:=by unfold RawM.d;omega
theorem RawM.good (x:RawM):∀t∈x.tris,goodT x.P.length t:=by
 intro t ht
 obtain ⟨u,hu,rfl⟩:=List.mem_map.1 ht
 exact x.net.goodT hu
theorem RawM.rim (x:RawM):RimOk x.tris x.sd:=rimOk_sd x.good x.fi
theorem RawM.side (x:RawM):∀s∈x.sd,s.1<x.P.length∧s.2.1<x.P.length∧s.2.2≤255:=by
 intro s hs
 obtain ⟨i,c,h1,h2,h3,h4,rfl⟩:=(sdTo_mem _ _ _ _ s).1 hs
 exact⟨h1,h2,by simp only;omega⟩
theorem RawM.sd_len (x:RawM):x.sd.length≤24576:=by
 have h:=sdTo_len x.tris x.fi x.P.length x.P.length
 have h2:=x.net.fewP
 have h3:x.P.length*x.P.length≤108*108:=Nat.mul_le_mul h2 h2
 unfold RawM.sd
 omega
theorem m_Mesh (x:RawM) (hx:x.Ok) (v:Value) (w:World) (hS:BS w v x.bs):
  Calls Tryz.prog 20 #[.agg #[.int .u8 (x.nx:Int),.int .u8 (x.ny:Int),v,.int .i8 x.m0,.int .i8 x.m1,.int .i8 x.m2,.int .i8 x.m3,.int .u8 (x.den:Int),.int .u8 (x.fi:Int)]] w (fun e w'=> ∃a b c,e= .returned (.agg #[a,b,c])∧MS w' w.heap.size a b c x.mesh∧Gr w.heap.size w w'):=by
 obtain ⟨mv,hmv⟩:∃mv:P2→Int×Int,∀p,mv p=((mapK x.m0 x.m1 x.m2 x.m3).1*p.1+(mapK x.m0 x.m1 x.m2 x.m3).2.1*p.2,(mapK x.m0 x.m1 x.m2 x.m3).2.2.1*p.1+(mapK x.m0 x.m1 x.m2 x.m3).2.2.2*p.2):=⟨_,fun _=>rfl⟩
 have hP:=x.net.fewP
 have hL:=x.net.few
 have hlow:=x.net.low
 have hk:=x.smallK
 have h:=ms_Mesh x.nx x.ny x.den x.fi x.m0 x.m1 x.m2 x.m3 v x.bs w hx.den hS (x.P.map mv) x.tris x.sd (by simp;omega) (by simp [RawM.tris];omega) (by have:=x.sd_len;omega) (fun q hq=>by
   obtain ⟨p,hp,rfl⟩:=List.mem_map.1 hq
   have a:=lin_bound hk.1 hk.2.1 (hlow p hp).1 (hlow p hp).2
   have b:=lin_bound hk.2.2.1 hk.2.2.2 (hlow p hp).1 (hlow p hp).2
   rw [hmv]
   exact⟨a.1,a.2,b.1,b.2⟩)
  (fun W hW=>ms_whole x.nx x.ny x.den x.fi x.m0 x.m1 x.m2 x.m3 v x.bs W hx.nx hx.ny hx.fi (hS.gr hW) hx.bs x.cells x.L rfl rfl (cells_len _ (by omega) (by omega)) (fun p hp=>hlow p ((places_mem _ _).2 hp)) mv hmv)
 refine h.mono ?_
 rintro e w' ⟨a,b,c,rfl,hM,hg⟩
 refine⟨a,b,c,rfl,?_,hg⟩
 have e1:(x.P.map mv).map (ptq (1+x.den % 6))=x.P.map (ptM x.k x.d):=by
  rw [List.map_map]
  refine List.map_congr_left fun p _=>?_
  simp only [Function.comp,ptq,hmv]
  rfl
 rw [e1]at hM
 exact hM
theorem m_Check (x:RawM) (a b c:Value) (w:World) (hM:MS w 0 a b c x.mesh):Calls Tryz.prog 56 #[.agg #[a,b,c]] w (Ret w (.int .i64 0)):=
 ms_CheckG x.net x.det x.smallK x.d_pos.1 x.d_pos.2 x.side x.sd_len x.rim a b c w hM
end Go.Proofs.YtfgmdhjmgdccdaaGreat
namespace Go.Proofs.YtfgmdhjmgdccdaaGreat
open Go.RowKit Gus Go.Maps
set_option maxRecDepth 20000 in
theorem ms_Numbered (m:Msh) (vp vt vs:Value) (w:World) (hM:MS w 0 vp vt vs m) (hl:∀t∈m.tris,goodT m.pts.length t):Calls Tryz.prog 30 #[.agg #[vp,vt,vs]] w (Ret w (.bool true)):=by
 obtain ⟨hP,hT,hS⟩:=hM
 obtain ⟨ap,cp,rfl⟩:=hP.at
 have hN:=Lh (fun W (hW:Gr w.heap.size w W)=>ms_numbered m.tris m.pts.length vt W (hT.gr hW) hl)
 clear hP hT hS hl
 go_enter Tryz.func30,Tryz.ntmps30
 go_wp2_with fail
 (refine rtu (hN.out _ (by exact gzz)) fun w1 hsz1 hl1 hc1 hf1 HG1=>?_;(try simp at hsz1))
 go_wp2
 go_ret
 exact⟨rfl,by exact gcc HG1 gzz⟩
set_option maxRecDepth 20000 in
theorem ms_EdgesG (m:Msh) (vp vt vs:Value) (w:World) (hM:MS w 0 vp vt vs m) (hN:m.pts.length≤1000000) (hl:∀t∈m.tris,goodT m.pts.length t) (hn:m.tris.length≤1000000) (hne0:m.tris≠ []):
  Calls Tryz.prog 7 #[.agg #[vp,vt,vs]] w (fun e w'=> ∃v',e= .returned v'∧∃es,SR eC 4 44 w' w.heap.size v' es∧es.Perm (stE m.tris m.tris.length)∧es.Pairwise (fun a b=> ¬ordE b a<0)∧Gr w.heap.size w w'):=by
 have hA:=Lh (fun W (hW:Gr w.heap.size w W)=>ms_Numbered m vp vt vs W (hM.gr hW) hl)
 have hB:=Lh (fun W (hW:Gr w.heap.size w W)=>ms_edgesG vt W m.tris m.pts.length (by omega) (hM.2.1.gr hW) hl hn hne0)
 clear hM hl hn hne0 hN
 go_enter Tryz.func7,Tryz.ntmps7
 go_wp2_with fail
 refine(hA.out _ (by exact gzz)).mono ?_
 rintro e w1 ⟨rfl,hg1⟩
 have hsz1:=hg1.size
 (try simp at hsz1)
 have hz1_0:w.heap.size<w1.heap.size:=(by omega)
 obtain ⟨hc1,hf1⟩:=hg1.cells
 have HG1:=Lh hg1
 clear hg1
 go_wp2_with fail
 refine(hB.out _ (by exact gcc HG1 gzz)).mono ?_
 rintro e w2 ⟨v',rfl,es,h1,h2,h3,hg2⟩
 have HG2:=Lh hg2
 have hsz2:=hg2.size
 (try simp at hsz2)
 clear hg2
 have hwz:w.heap.size<w1.heap.size:=hz1_0
 go_wp2
 go_ret
 exact⟨v',rfl,es,h1.mono (by first|omega|(simp;done)|(simp;omega)),h2,h3,Gr.trans (by exact gcc HG1 gzz) (Gr.mono HG2.out (by omega))⟩
end Go.Proofs.YtfgmdhjmgdccdaaGreat
namespace Go.Proofs.YtfgmdhjmgdccdaaGreat
open Go.RowKit Gus Go.Maps
def esM (l:List Tri):List Edg:=(stE l l.length).mergeSort fun a b=> !decide (ordE b a<0)
theorem esM_perm (l:List Tri):(esM l).Perm (stE l l.length):=List.mergeSort_perm _ _
theorem esM_sorted (l:List Tri):(esM l).Pairwise fun a b=> ¬ordE b a<0:=by
 refine(List.pairwise_mergeSort (le:=fun a b=> !decide (ordE b a<0)) ?_ ?_ _).imp (fun {a b} h=>by simpa using h)
 ·intro a b c h1 h2
  simp only [Bool.not_eq_true',decide_eq_false_iff_not,ordE_lt]at h1 h2 ⊢
  omega
 ·intro a b
  simp only [Bool.or_eq_true,Bool.not_eq_true',decide_eq_false_iff_not,ordE_lt]
  omega
theorem esM_ends (l:List Tri):(ends (esM l)).Nodup:=((esM_perm l).map _).nodup_iff.2 (stE_nodup l l.length)
theorem esM_len (l:List Tri):(esM l).length≤3*l.length:=by rw [(esM_perm l).length_eq];exact stE_len _ _
theorem esM_Ends {N:Nat} {l:List Tri} (hl:∀t∈l,goodT N t):Ends N (esM l):=fun e he=>stE_ends hl l.length e ((esM_perm l).subset he)
theorem esM_mem {N:Nat} {l:List Tri} (hl:∀t∈l,goodT N t) (a b:Nat):((a:Int),(b:Int))∈ends (esM l)↔a<b∧∃t∈l,has3 t a=true∧has3 t b=true:=by
 rw [show((a:Int),(b:Int))∈ends (esM l)↔((a:Int),(b:Int))∈ends (stE l l.length)from((esM_perm l).map fun e=>(e.a,e.b)).mem_iff]
 have:=stE_mem hl a b l.length
 rwa [List.take_length]at this
theorem esM_pair (l:List Tri):(esM l).Pairwise fun a b=> ¬(a.a=b.a∧a.b=b.b):=by
 have h:=esM_ends l
 unfold ends at h
 rw [List.Nodup,List.pairwise_map]at h
 exact h.imp (fun {a b} h e=>h (by rw [e.1,e.2]))
theorem ms_EdgesM (m:Msh) (vp vt vs:Value) (w:World) (hM:MS w 0 vp vt vs m) (hN:m.pts.length≤1000000) (hl:∀t∈m.tris,goodT m.pts.length t) (hn:m.tris.length≤1000000) (hne0:m.tris≠ []):
  Calls Tryz.prog 7 #[.agg #[vp,vt,vs]] w (fun e w'=> ∃v',e= .returned v'∧SR eC 4 44 w' w.heap.size v' (esM m.tris)∧Gr w.heap.size w w'):=by
 refine(ms_EdgesG m vp vt vs w hM hN hl hn hne0).mono ?_
 rintro e w' ⟨v',rfl,es,hS,hp,hs,hg⟩
 have:=es_unique (stE_nodup _ _) hp hs (esM_perm m.tris) (esM_sorted m.tris)
 subst this
 exact⟨v',rfl,hS,hg⟩
end Go.Proofs.YtfgmdhjmgdccdaaGreat
namespace Go.Proofs.YtfgmdhjmgdccdaaGreat
open Go.ChangeShapes Go.WideShapes Go.RowKit
theorem laid_ok:laidOutB Tryz.prog=true:=by kernel_rfl
theorem Below.same_ {w w':World} (hg:Below w.heap.size w w') {p:MemPlace} (hp:p.block<w.heap.size):w.sameAt w' p:=by
 cases p with
 | cell b o=>exact hg.cell (p:=⟨b,o,none⟩) hp
 | map b=>exact hg.block b hp
theorem again_B {H:Type} {enc:TypeId×Value→H} {W W':World} (hg:Below W.heap.size W W') {t:TypeId} (hr:Tryz.prog.readableRec t=true) (ht:t<Tryz.prog.types.size) {v:Value} {d:DataW H} {ps:List MemPlace}
  (h:DataW.Trod enc Tryz.prog W 0 (fun _=>true) true t v d ps):DataW.Trod enc Tryz.prog W' 0 (fun b=>decide (b<W.heap.size)) true t v d ps:=by
 have hlt:∀p∈ps,p.block<W.heap.size:=by
  obtain ⟨n,hn⟩:=h
  exact DataW.trod_lt n _ _ _ hn
 obtain ⟨n,hn⟩:=DataW.Trod.respare (spare':=fun b=>decide (b<W.heap.size)) (kids_book laid_ok hr) (fun _ _=>book_sized hr) ⟨ht,book_self t⟩ h (fun p hp=>by simpa using hlt p hp)
 exact⟨n,DataW.trod_carry n _ _ _ hn (fun p hp=>Below.same_ hg (hlt p hp))⟩
end Go.Proofs.YtfgmdhjmgdccdaaGreat
