/-
  Part 33 of the proof: WholeB.
-/
import Derived.Test.YtfgmdhjmgdccdaaGreatJ32
set_option linter.unusedSimpArgs false
set_option linter.unusedVariables false
namespace Go.Proofs.YtfgmdhjmgdccdaaGreat
open Go.RowKit Gus Go.Maps
noncomputable abbrev tlW (n:Nat):Code:=tailW n ((Tryz.f51).body.getD .skip)
theorem info_Wh:(Tryz.prog.info? 116).map (·.size)=some 3:=by kernel_rfl
theorem VB.three' {w:World} {g:Nat} {a b c:Value} (h:VB w g [a,b,c]):w.cell? ⟨g,0,none⟩=some a∧w.cell? ⟨g,1,none⟩=some b∧w.cell? ⟨g,2,none⟩=some c∧w.frozen? ⟨g,0,none⟩=false∧w.frozen? ⟨g,1,none⟩=false∧w.frozen? ⟨g,2,none⟩=false:=⟨h.c 0 _ rfl,h.c 1 _ rfl,h.c 2 _ rfl,h.f 0 (by simp),h.f 1 (by simp),h.f 2 (by simp)⟩
theorem cnt_succ {TR:List Tri} {p:Tri→Bool} {j:Nat} {t:Tri} (h:TR[j]? =some t):(TR.take (j+1)).countP p=(TR.take j).countP p+(if p t then 1 else 0):=by
 rw [List.take_add_one,h,List.countP_append];simp [List.countP_cons]
theorem cnt_le {TR:List Tri} {p:Tri→Bool} (j:Nat):(TR.take j).countP p≤TR.length:=Nat.le_trans List.countP_le_length (by simp;omega)
variable {v0 v1 v2 v3 v4 v5 v6 v7 v8 v9 v10 v11 v12 v13 v14 v15 v16 v17 v18 v19 v20 v21 v22 v23 v24 v25 v26 v27 v28 v29 v30 v31 v32 v33 v34 v35 v36 v37 v38 v39 v40 v41 v42 v43 v44 v45 v46 v47 v48 v49 v50 v51 v52 v53 v54 v55 v56 v57 v58 v59 v60 v61 v62 v63 v64 v65 v66 v67 v68 v69 v70 v71 v72 v73 v74 v75 v76 v77 v78 v79 v80 v81 v82 v83 v84 v85 v86 v87 v88 v89 v90 v91 v92 v93 v94 v95 v96 v97 v98 v99 v100 v101 v102 v103 v104 v105 v106 v107 v108 v109 v110 v111 v112 v113 v114 v115 v116 v117 v118 v119 v120 v121 v122 v123 v124 v125 v126 v127 v128 v129 v130 v131 v132 v133 v134 v135 v136 v137 v138 v139 v140 v141 v142:Value}
set_option maxRecDepth 20000 in
set_option maxHeartbeats 8000000 in
theorem whole24 (w W:World) (mc:List Value) (f N:Nat) (hf8:mc[8]? =some (.int .u8 (f:Int))) (hf:f<256) (hN:N≤200) (PT:List (Int×Int)) (TR:List Tri) (hTR:TR.length≤36) (pa:Option Addr) (pc:Nat) (vp vt:Value) (hG:Gr w.heap.size w W) (hM:VB W (w.heap.size) mc) (hR:VB W (w.heap.size+1) [.slice none 0 0,.slice none 0 0,.slice none 0 0]) (hS:VB W (w.heap.size+1+1) [vp,vt,.slice none 0 0])
  (hP:SL i2C 2 118 W (w.heap.size+1+1+1) vp PT) (hT:SL triC 3 106 W (w.heap.size+1+1+1) vt TR):
  Code.wp Tryz.prog (tlW 24) (bodyPost Tryz.prog Tryz.f51 (fun e w'=> ∃vp vt vs,e= .returned (.agg #[vp,vt,vs])∧SL i2C 2 118 w' w.heap.size vp PT∧SL triC 3 106 w' w.heap.size vt TR∧SL triC 3 106 w' w.heap.size vs (sdTo TR f N N)∧Gr w.heap.size w w')) {tmps:= #[v0,.pointer (some ⟨w.heap.size,0,none⟩),.pointer (some ⟨w.heap.size+1,0,none⟩),.pointer (some ⟨w.heap.size+1+1,0,none⟩),.slice pa N pc,v5,v6,v7,v8,v9,v10,v11,v12,v13,v14,v15,v16,v17,v18,v19,v20,v21,v22,v23,v24,v25,v26,v27,v28,v29,v30,v31,v32,v33,v34,v35,v36,v37,v38,v39,v40,v41,v42,v43,v44,v45,v46,v47,v48,v49,v50,v51,v52,v53,v54,v55,v56,v57,v58,v59,v60,v61,v62,v63,v64,v65,v66,v67,v68,v69,v70,v71,v72,v73,v74,v75,v76,v77,v78,v79,v80,v81,v82,v83,v84,v85,v86,v87,v88,v89,v90,v91,v92,v93,v94,v95,v96,v97,v98,v99,v100,v101,v102,v103,v104,v105,v106,v107,v108,v109,v110,v111,v112,v113,v114,v115,v116,v117,v118,v119,v120,v121,v122,v123,v124,v125,v126,v127,v128,v129,v130,v131,v132,v133,v134,v135,v136,v137,v138,v139,v140,v141,v142],defers:= []} W:=by
 have HP:=Lib.hid hP
 have HT:=Lib.hid hT
 have HM:=Lib.hid hM
 have HR:=Lib.hid hR
 have HG:=Lib.hid hG
 have hws:=hS.lt
 obtain ⟨at_,ct,rfl⟩:=hT.at
 obtain ⟨ap,cp,rfl⟩:=hP.at
 have l1:=hT.len
 have HS0:=Lib.hid hS
 have hnl:(N:Int)≤9223372036854775807:=by omega
 clear hP hT hM hR hG hS
 obtain ⟨i0,hi,hz0,hz1,hz2⟩:=info_parts info_bTri
 have HI:=Lib.hid (And.intro hi (And.intro hz0 (And.intro hz1 hz2)))
 clear hi hz0 hz1 hz2
 have HF8:=Lib.hid hf8
 clear hf8
 refine wp_seq_k (fun K hK=>?_)
 go_wp2
 go_loopw [12] (fun s wr=> ∃(a:Nat) (vs:Value),a≤N∧s= .int .i64 a∧Hid (VB wr (w.heap.size+1+1) [.slice ap PT.length cp,.slice at_ TR.length ct,vs])∧Hid (SL triC 3 106 wr W.heap.size vs (sdTo TR f N a))∧Hid (Kp W wr (some (w.heap.size+1+1)))) (fun s _=>N - (intOf s).toNat)
 case atStart=>exact⟨0,_,Nat.zero_le _,rfl,HS0,Lib.hid SL.nil,Lib.hid ((Gr.refl _ _).kp _)⟩
 case round=>
  clear HS0
  obtain ⟨a,vs,ha,rfl,HS,HV,HK⟩:=hrel
  have hszr:=HK.out.g.size
  have hlen:=sdTo_len TR f N a
  obtain ⟨sda,hsda⟩:∃q,sdTo TR f N a=q:=⟨_,rfl⟩
  rw [hsda]at HV hlen
  replace hsda:=Lib.hid hsda
  obtain ⟨as_,cs,rfl⟩:=HV.out.at
  by_cases hlt:a<N
  ·have q0:(a:Int)<(N:Int):=by omega
   have q1:IntKind.i64.wrap ((a:Int)+1)=((a+1:Nat):Int):=by rw [wrap64_id (by omega) (by omega)];omega
   go_wp2
   go_loopw [13] (fun s wr=> ∃(b:Nat) (vs:Value),a<b∧b≤N∧s= .int .i64 b∧Hid (VB wr (w.heap.size+1+1) [.slice ap PT.length cp,.slice at_ TR.length ct,vs])∧Hid (SL triC 3 106 wr W.heap.size vs (sdTo TR f N a++rowS TR f a b))∧Hid (Kp W wr (some (w.heap.size+1+1)))) (fun s _=>N - (intOf s).toNat)
   case atStart=>exact⟨a+1,_,by omega,by omega,by go_num,HS,Lib.hid (by rw [rowS_start,List.append_nil,hsda.out];exact HV.out),HK⟩
   case round=>
    clear HS HV HK hszr
    obtain ⟨b,vs,hab,hb,rfl,HS,HV,HK⟩:=hrel
    have hszr:=HK.out.g.size
    obtain ⟨acc,hacc⟩:∃q,sdTo TR f N a++rowS TR f a b=q:=⟨_,rfl⟩
    have hal:acc.length≤a*N+b:=by rw [←hacc,List.length_append];have:=sdTo_len TR f N a;have:=rowS_len TR f a b;omega
    rw [hacc]at HV
    replace hacc:=Lib.hid hacc
    obtain ⟨as_,cs,rfl⟩:=HV.out.at
    have hsl:=HS.out.lt
    by_cases hltb:b<N
    ·have q2:(b:Int)<(N:Int):=by omega
     go_wp2
     obtain ⟨b0,b1,b2,-⟩:=HS.out.three'
     go_loopw [14,15] (fun c s wq=> ∃t:Nat,t≤TR.length∧s= .int .i64 t∧c= .int .i64 (((TR.take t).countP (fun t=>has3 t a && has3 t b):Nat):Int)∧Hid (Gr wr.heap.size wr wq)) (fun _ s _=>TR.length - (intOf s).toNat)
     case atStart=>exact⟨0,Nat.zero_le _,rfl,by simp,Lib.hid (Gr.refl _ _)⟩
     case round=>
      obtain ⟨t,ht,rfl,rfl,HQ⟩:=hrel
      have hszq:=HQ.out.size
      obtain ⟨b0,b1,b2,-⟩:=(HS.out.gr HQ.out hsl).three'
      have hsw:w.heap.size+1+1<wr.heap.size:=by omega
      have hcl:=cnt_le (TR:=TR) (p:=fun t=>has3 t a && has3 t b) t
      by_cases hltt:t<TR.length
      ·have q3:(t:Int)<(TR.length:Int):=by omega
       obtain ⟨tt,htt⟩:∃x,TR[t]=x:=⟨_,rfl⟩
       have hget:TR[t]? =some tt:=by rw [List.getElem?_eq_getElem hltt,htt]
       have hcs:=cnt_succ (p:=fun t=>has3 t a && has3 t b) hget
       obtain ⟨g,cap',e4,hgB,_,_,hsh,hR⟩:=((HK.out.sl HT.out (fun g e e2=>by have:=HT.out.own_ge e;have:=Option.some.inj e2;omega)).gr HQ.out).sr.block (by intro e;rw [e]at hltt;simp at hltt)
       injection e4 with e4 _ e5
       subst e4 e5
       have hglt:=hsh.lt
       obtain ⟨u0,u1,u2⟩:=hR.fTri hltt htt
       clear hR hsh htt
       have hHa:=ms_Has tt a
       have hHb:=ms_Has tt b
       skip
       obtain ⟨c0,hc0⟩:∃c,(TR.take t).countP (fun t=>has3 t a && has3 t b)=c:=⟨_,rfl⟩
       rw [hc0]at hcl hcs ⊢
       clear hc0
       try dsimp only at hcs
       have hwc:IntKind.i64.wrap ((c0:Int)+1)=((c0+1:Nat):Int):=by rw [wrap64_id (by omega) (by omega)];omega
       cases hh:has3 tt a
       ·rw [hh]at hcs hHa
        replace hHa:=Lib.hid hHa
        clear hHb
        rw [Bool.false_and,if_neg (by simp)]at hcs
        replace hcs:=Lib.hid hcs
        go_wp2_with fail
        (refine rtt (hHa.out _) fun w2 hsz2 hc2 hf2 HG2=>?_;(try simp at hsz2);have hy2_0:w.heap.size+1+1<w2.heap.size:=(by omega);have hy2_1:g<w2.heap.size:=(by omega);have hy2_2:w.heap.size<w2.heap.size:=(by omega))
        go_wp2
        go_roundw
        case rel=>exact⟨t+1,by omega,by go_num,by rw [hcs.out];rfl,Lib.hid (by exact gcc HG2 (gcc HQ gzz))⟩
        case measure=>simp [intOf];omega
       ·rw [hh]at hcs hHa
        replace hHa:=Lib.hid hHa
        cases hh2:has3 tt b
        ·rw [hh2]at hcs hHb
         replace hHb:=Lib.hid hHb
         rw [Bool.true_and,if_neg (by simp)]at hcs
         replace hcs:=Lib.hid hcs
         go_wp2_with fail
         (refine rtt (hHa.out _) fun w2 hsz2 hc2 hf2 HG2=>?_;(try simp at hsz2);have hy2_0:w.heap.size+1+1<w2.heap.size:=(by omega);have hy2_1:g<w2.heap.size:=(by omega);have hy2_2:w.heap.size<w2.heap.size:=(by omega))
         go_wp2_with fail
         (refine rtt (hHb.out _) fun w3 hsz3 hc3 hf3 HG3=>?_;(try simp at hsz3);have hy3_0:w.heap.size+1+1<w3.heap.size:=(by omega);have hy3_1:g<w3.heap.size:=(by omega);have hy3_2:w.heap.size<w3.heap.size:=(by omega))
         go_wp2
         go_roundw
         case rel=>exact⟨t+1,by omega,by go_num,by rw [hcs.out];rfl,Lib.hid (by exact gcc HG3 (gcc HG2 (gcc HQ gzz)))⟩
         case measure=>simp [intOf];omega
        ·rw [hh2]at hcs hHb
         replace hHb:=Lib.hid hHb
         rw [Bool.true_and,if_pos rfl]at hcs
         replace hcs:=Lib.hid hcs
         go_wp2_with fail
         (refine rtt (hHa.out _) fun w2 hsz2 hc2 hf2 HG2=>?_;(try simp at hsz2);have hy2_0:w.heap.size+1+1<w2.heap.size:=(by omega);have hy2_1:g<w2.heap.size:=(by omega);have hy2_2:w.heap.size<w2.heap.size:=(by omega))
         go_wp2_with fail
         (refine rtt (hHb.out _) fun w3 hsz3 hc3 hf3 HG3=>?_;(try simp at hsz3);have hy3_0:w.heap.size+1+1<w3.heap.size:=(by omega);have hy3_1:g<w3.heap.size:=(by omega);have hy3_2:w.heap.size<w3.heap.size:=(by omega))
         go_wp2
         go_roundw
         case rel=>exact⟨t+1,by omega,by go_num,by rw [hcs.out];rfl,Lib.hid (by exact gcc HG3 (gcc HG2 (gcc HQ gzz)))⟩
         case measure=>simp [intOf];omega
      ·have htl:t=TR.length:=by omega
       subst htl
       rw [List.take_length]at hcl ⊢
       obtain ⟨c0,hc0⟩:∃c,TR.countP (fun t=>has3 t a && has3 t b)=c:=⟨_,rfl⟩
       have hrs:=rowS_succ TR f hab
       rw [hc0]at hcl hrs ⊢
       clear hc0
       have hNN:a*N≤200*200:=Nat.mul_le_mul (by omega) hN
       have hmb:=HM.out.lt
       have c8:=((HK.out.cell hmb (fun e=>by have:=Option.some.inj e;omega)).trans (HM.out.c 8 _ HF8.out))
       have c8':wr.cell? ⟨w.heap.size,8,none⟩=some (.int .u8 (f:Int)):=(HQ.out.cell (p:=⟨w.heap.size,8,none⟩) (Nat.lt_of_lt_of_le hmb hszr)).trans c8
       clear c8
       by_cases hc1:c0=1
       ·subst hc1
        rw [if_pos rfl]at hrs
        obtain ⟨r,hr⟩:∃r,(a+3*b+f) % 5=r:=⟨_,rfl⟩
        rw [hr]at hrs
        have w1:IntKind.i64.wrap (3*(b:Int))=3*(b:Int):=wrap64_id (by omega) (by omega)
        have w2:IntKind.i64.wrap ((a:Int)+3*(b:Int))=(a:Int)+3*(b:Int):=wrap64_id (by omega) (by omega)
        have w3:IntKind.i64.wrap ((a:Int)+3*(b:Int)+(f:Int))=(a:Int)+3*(b:Int)+(f:Int):=wrap64_id (by omega) (by omega)
        have w4:((a:Int)+3*(b:Int)+(f:Int)).tmod 5=(r:Int):=by rw [Int.tmod_eq_emod_of_nonneg (by omega)];omega
        have w5:((a:Int)+3*(b:Int)+(f:Int)) % 5=(r:Int):=by omega
        have w6:IntKind.i64.wrap (r:Int)=(r:Int):=wrap64_id (by omega) (by omega)
        replace hrs:=Lib.hid hrs
        clear hr
        go_wp2_with (at_builtin;refine wpList_appS _ rfl _ _ 32 rfl W.heap.size i0 _ 24 Tryz.underlying32 HI.out.1 HI.out.2.1 HI.out.2.2.1 HI.out.2.2.2 rfl (by decide) triC_len triC_one _ acc rfl ((HV.out.gr HQ.out).gr (by exact gzz)) wr.heap.size _ [(a,b,r)] 1 rfl rfl (RC.new1' (by simp) rfl) (by simp [maxLen];omega) (by simp;omega) (by simp;omega) ?_;intro v' w4 hS4 hkp4 hown;clear hown;obtain ⟨pa4,pc4,e4⟩:=hS4.at;obtain ⟨n4,hn4⟩:∃n,(acc++ [(a,b,r)]).length=n:=⟨_,rfl⟩;rw [hn4]at e4;subst e4;clear hn4;have HS4:=Lib.hid (And.intro hS4 hkp4);have hsz4:=hkp4.g.size;(try simp at hsz4);have hsb4:w.heap.size+1+1<w4.heap.size:=(by omega);have b4:=(((HS.out.gr HQ.out hsl).gr (show Gr wr.heap.size wr _ from by exact gzz) (by omega)).kp hkp4 (fun e=>by have:=HV.out.own_ge e.symm;omega));obtain ⟨d0,d1,d2,f0,f1,f2⟩:=b4.three';have HB4:=Lib.hid b4;clear b4 hS4 hkp4)
        go_roundw
        case rel=>exact⟨b+1,.slice pa4 n4 pc4,by omega,by omega,by go_num,Lib.hid (HB4.out.one 2 (.slice pa4 n4 pc4) (by simp)),Lib.hid (by rw [hrs.out,←List.append_assoc,hacc.out];exact SL.far HS4.out.1 (by simp;omega) _),Lib.hid (((HK.out.trans ((HQ.out.kp _).trans ((show Gr wr.heap.size wr _ from by exact gzz).kp _))).far HS4.out.2 (fun g e=>HV.out.own_ge e)).trans (Kp.sets w4 (w.heap.size+1+1) 2 [.slice pa4 n4 pc4]))⟩
        case measure=>simp [intOf];omega
       ·rw [if_neg hc1,List.append_nil]at hrs
        have hne1:((c0:Int) == 1)=false:=by simp;omega
        go_wp2
        go_roundw
        case rel=>exact⟨b+1,_,by omega,by omega,by go_num,Lib.hid (HS.out.gr HQ.out hsl),Lib.hid (by rw [hrs,hacc.out];exact HV.out.gr HQ.out),Lib.hid (HK.out.trans (HQ.out.kp _))⟩
        case measure=>simp [intOf];omega
    ·have hbn:b=N:=by omega
     subst hbn
     go_wp2
     go_roundw
     case rel=>exact⟨a+1,_,by omega,by go_num,HS,Lib.hid (by rw [sdTo_succ,hacc.out];exact HV.out),HK⟩
     case measure=>simp [intOf];omega
  ·have han:a=N:=by omega
   subst han
   have hsl:=HS.out.lt
   obtain ⟨b0,b1,b2,-⟩:=HS.out.three'
   have hrlt:=HR.out.lt
   have HR2:=Lib.hid (show VB wr (w.heap.size+1) [.slice none 0 0,.slice none 0 0,.slice none 0 0]from⟨fun j v hv=>(HK.out.cell hrlt (fun e=>by have:=Option.some.inj e;omega)).trans (HR.out.c j v hv),fun j hj=>(World.frozen?_of_block (a:=⟨w.heap.size+1,j,none⟩) (HK.out.g.block (w.heap.size+1) hrlt (fun e=>absurd (Option.some.inj e) (by omega)))).trans (HR.out.f j hj),Nat.lt_of_lt_of_le hrlt hszr⟩)
   obtain ⟨r0,r1,r2,s0,s1,s2⟩:=HR2.out.three'
   have hrl2:=HR2.out.lt
   have hP2:=HK.out.sl HP.out (fun g e e2=>by have:=HP.out.own_ge e;have:=Option.some.inj e2;omega)
   have hT2:=HK.out.sl HT.out (fun g e e2=>by have:=HT.out.own_ge e;have:=Option.some.inj e2;omega)
   have hS2:=HV.out
   have hGw:=HG.out.trans (HK.out.gr (B:=w.heap.size) (fun b e=>by have:=Option.some.inj e;omega) HG.out.size)
   replace hP2:=Lib.hid hP2
   replace hT2:=Lib.hid hT2
   replace hS2:=Lib.hid hS2
   replace hGw:=Lib.hid hGw
   go_wp2
   refine ret_row (g:=w.heap.size+1) (cs:= [.slice ap PT.length cp,.slice at_ TR.length ct,.slice as_ sda.length cs]) Tryz.results51 rfl ?_ Tryz.underlying116 rfl info_Wh rfl ⟨_,_,_,rfl,?_,?_,?_,?_⟩
   ·(with_reducible (repeat' (first|(refine VB.new' ?_;exact(by first|omega|(simp;done)|(simp;omega)))|apply VB.put2|apply VB.put3|apply VB.put5|refine VB.drew ?_|refine VB.far ?_ ?_ _|refine VB.alloc ?_ _|exact HR2.out|omega|(simp;done)|(simp;omega))))
   ·exact SL.mono (SL.far (SL.far (SL.far hP2.out (by simp) _) (by simp) _) (by simp) _) (by omega)
   ·exact SL.mono (SL.far (SL.far (SL.far hT2.out (by simp) _) (by simp) _) (by simp) _) (by omega)
   ·rw [hsda.out]
    exact SL.mono (SL.far (SL.far (SL.far hS2.out (by simp;omega) _) (by simp;omega) _) (by simp;omega) _) (by omega)
   ·exact gcc hGw gzz
end Go.Proofs.YtfgmdhjmgdccdaaGreat
