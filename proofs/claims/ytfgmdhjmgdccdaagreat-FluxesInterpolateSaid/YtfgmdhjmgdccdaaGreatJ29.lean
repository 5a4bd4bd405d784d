/-
  Part 29 of the proof: WholeB WholeG WholeH.
-/
import Derived.Test.YtfgmdhjmgdccdaaGreatJ28
import Derived.ChangeKeysEq
set_option linter.unusedSimpArgs false
set_option linter.unusedVariables false
set_option maxHeartbeats 8000000
namespace Go.Proofs.YtfgmdhjmgdccdaaGreat
open Go.RowKit Gus Go.Maps
noncomputable abbrev tlW (n:Nat):Code:=tailW n ((Tryz.f51).body.getD .skip)
theorem info_Wh:(Tryz.prog.info? 116).map (·.size)=some 3:=by kernel_rfl
theorem VB.three' {w:World} {g:Nat} {a b c:Value} (h:VB w g [a,b,c]):w.cell? ⟨g,0,none⟩=some a∧w.cell? ⟨g,1,none⟩=some b∧w.cell? ⟨g,2,none⟩=some c∧w.frozen? ⟨g,0,none⟩=false∧w.frozen? ⟨g,1,none⟩=false∧w.frozen? ⟨g,2,none⟩=false:=⟨h.c 0 _ rfl,h.c 1 _ rfl,h.c 2 _ rfl,h.f 0 (by simp),h.f 1 (by simp),h.f 2 (by simp)⟩
theorem cnt_succ {TR:List Tri} {p:Tri→Bool} {j:Nat} {t:Tri} (h:TR[j]? =some t):(TR.take (j+1)).countP p=(TR.take j).countP p+(if p t then 1 else 0):=by
 rw [List.take_add_one,h,List.countP_append];simp [List.countP_cons]
theorem cnt_le {TR:List Tri} {p:Tri→Bool} (j:Nat):(TR.take j).countP p≤TR.length:=Nat.le_trans List.countP_le_length (by simp;omega)
variable {v0 v1 v2 v3 v4 v5 v6 v7 v8 v9 v10 v11 v12 v13 v14 v15 v16 v17 v18 v19 v20 v21 v22 v23 v24 v25 v26 v27 v28 v29 v30 v31 v32 v33 v34 v35 v36 v37 v38 v39 v40 v41 v42 v43 v44 v45 v46 v47 v48 v49 v50 v51 v52 v53 v54 v55 v56 v57 v58 v59 v60 v61 v62 v63 v64 v65 v66 v67 v68 v69 v70 v71 v72 v73 v74 v75 v76 v77 v78 v79 v80 v81 v82 v83 v84 v85 v86 v87 v88 v89 v90 v91 v92 v93 v94 v95 v96 v97 v98 v99 v100 v101 v102 v103 v104 v105 v106 v107 v108 v109 v110 v111 v112 v113 v114 v115 v116 v117 v118 v119 v120 v121 v122 v123 v124 v125 v126 v127 v128 v129 v130 v131 v132 v133 v134 v135 v136 v137 v138 v139 v140 v141 v142:Value}
set_option maxRecDepth 20000 in
theorem whole24 (w W:World) (mc:List Value) (f N:Nat) (hf8:mc[8]? =some (.int .u8 (f:Int))) (hf:f<256) (hN:N≤200) (PT:List (Int×Int)) (TR:List Tri) (hTR:TR.length≤36) (pa:Option Addr) (pc:Nat) (vp vt:Value) (hG:Gr w.heap.size w W) (hM:VB W (w.heap.size) mc) (hR:VB W (w.heap.size+1) [.slice none 0 0,.slice none 0 0,.slice none 0 0]) (hS:VB W (w.heap.size+1+1) [vp,vt,.slice none 0 0])
  (hP:SL i2C 2 118 W (w.heap.size+1+1+1) vp PT) (hT:SL triC 3 106 W (w.heap.size+1+1+1) vt TR):
  Code.wp Tryz.prog (tlW 24) (bodyPost Tryz.prog Tryz.f51 (fun e w'=> ∃vp vt vs,e= .returned (.agg #[vp,vt,vs])∧SL i2C 2 118 w' w.heap.size vp PT∧SL triC 3 106 w' w.heap.size vt TR∧SL triC 3 106 w' w.heap.size vs (sdTo TR f N N)∧Gr w.heap.size w w')) {tmps:= #[v0,.pointer (some ⟨w.heap.size,0,none⟩),.pointer (some ⟨w.heap.size+1,0,none⟩),.pointer (some ⟨w.heap.size+1+1,0,none⟩),.slice pa N pc,v5,v6,v7,v8,v9,v10,v11,v12,v13,v14,v15,v16,v17,v18,v19,v20,v21,v22,v23,v24,v25,v26,v27,v28,v29,v30,v31,v32,v33,v34,v35,v36,v37,v38,v39,v40,v41,v42,v43,v44,v45,v46,v47,v48,v49,v50,v51,v52,v53,v54,v55,v56,v57,v58,v59,v60,v61,v62,v63,v64,v65,v66,v67,v68,v69,v70,v71,v72,v73,v74,v75,v76,v77,v78,v79,v80,v81,v82,v83,v84,v85,v86,v87,v88,v89,v90,v91,v92,v93,v94,v95,v96,v97,v98,v99,v100,v101,v102,v103,v104,v105,v106,v107,v108,v109,v110,v111,v112,v113,v114,v115,v116,v117,v118,v119,v120,v121,v122,v123,v124,v125,v126,v127,v128,v129,v130,v131,v132,v133,v134,v135,v136,v137,v138,v139,v140,v141,v142],defers:= []} W:=by
 have HP:=Lh hP
 have HT:=Lh hT
 have HM:=Lh hM
 have HR:=Lh hR
 have HG:=Lh hG
 have hws:=hS.lt
 obtain ⟨at_,ct,rfl⟩:=hT.at
 obtain ⟨ap,cp,rfl⟩:=hP.at
 have l1:=hT.len
 have HS0:=Lh hS
 have hnl:(N:Int)≤9223372036854775807:=by omega
 clear hP hT hM hR hG hS
 obtain ⟨i0,hi,hz0,hz1,hz2⟩:=info_parts info_bTri
 have HI:=Lh (And.intro hi (And.intro hz0 (And.intro hz1 hz2)))
 clear hi hz0 hz1 hz2
 have HF8:=Lh hf8
 clear hf8
 refine wp_seq_k (fun K hK=>?_)
 go_wp2
 go_loopw [12] (fun s wr=> ∃(a:Nat) (vs:Value),a≤N∧s= .int .i64 a∧Hid (VB wr (w.heap.size+1+1) [.slice ap PT.length cp,.slice at_ TR.length ct,vs])∧Hid (SL triC 3 106 wr W.heap.size vs (sdTo TR f N a))∧Hid (Kp W wr (some (w.heap.size+1+1)))) (fun s _=>N - (intOf s).toNat)
 case atStart=>exact⟨0,_,Nat.zero_le _,rfl,HS0,Lh SL.nil,Lh ((Gr.refl _ _).kp _)⟩
 case round=>
  clear HS0
  obtain ⟨a,vs,ha,rfl,HS,HV,HK⟩:=hrel
  have hszr:=HK.out.g.size
  have hlen:=sdTo_len TR f N a
  obtain ⟨sda,hsda⟩:∃q,sdTo TR f N a=q:=⟨_,rfl⟩
  rw [hsda]at HV hlen
  replace hsda:=Lh hsda
  obtain ⟨as_,cs,rfl⟩:=HV.out.at
  by_cases hlt:a<N
  ·have q0:(a:Int)<(N:Int):=by omega
   have q1:IntKind.i64.wrap ((a:Int)+1)=((a+1:Nat):Int):=by rw [wrap64_id (by omega) (by omega)];omega
   go_wp2
   go_loopw [13] (fun s wr=> ∃(b:Nat) (vs:Value),a<b∧b≤N∧s= .int .i64 b∧Hid (VB wr (w.heap.size+1+1) [.slice ap PT.length cp,.slice at_ TR.length ct,vs])∧Hid (SL triC 3 106 wr W.heap.size vs (sdTo TR f N a++rowS TR f a b))∧Hid (Kp W wr (some (w.heap.size+1+1)))) (fun s _=>N - (intOf s).toNat)
   case atStart=>exact⟨a+1,_,by omega,by omega,by go_num,HS,Lh (by rw [rowS_start,List.append_nil,hsda.out];exact HV.out),HK⟩
   case round=>
    clear HS HV HK hszr
    obtain ⟨b,vs,hab,hb,rfl,HS,HV,HK⟩:=hrel
    have hszr:=HK.out.g.size
    obtain ⟨acc,hacc⟩:∃q,sdTo TR f N a++rowS TR f a b=q:=⟨_,rfl⟩
    have hal:acc.length≤a*N+b:=by rw [←hacc,List.length_append];have:=sdTo_len TR f N a;have:=rowS_len TR f a b;omega
    rw [hacc]at HV
    replace hacc:=Lh hacc
    obtain ⟨as_,cs,rfl⟩:=HV.out.at
    have hsl:=HS.out.lt
    by_cases hltb:b<N
    ·have q2:(b:Int)<(N:Int):=by omega
     go_wp2
     obtain ⟨b0,b1,b2,-⟩:=HS.out.three'
     go_loopw [14,15] (fun c s wq=> ∃t:Nat,t≤TR.length∧s= .int .i64 t∧c= .int .i64 (((TR.take t).countP (fun t=>has3 t a && has3 t b):Nat):Int)∧Hid (Gr wr.heap.size wr wq)) (fun _ s _=>TR.length - (intOf s).toNat)
     case atStart=>exact⟨0,Nat.zero_le _,rfl,by simp,Lh (Gr.refl _ _)⟩
     case round=>
      obtain ⟨t,ht,rfl,rfl,HQ⟩:=hrel
      have hszq:=HQ.out.size
      obtain ⟨b0,b1,b2,-⟩:=(HS.out.gr HQ.out hsl).three'
      have hsw:w.heap.size+1+1<wr.heap.size:=by omega
      have hcl:=cnt_le (TR:=TR) (p:=fun t=>has3 t a && has3 t b) t
      by_cases hltt:t<TR.length
      ·have q3:(t:Int)<(TR.length:Int):=by omega
       obtain ⟨tt,htt⟩:∃x,TR[t]=x:=⟨_,rfl⟩
       have hget:TR[t]? =some tt:=by rw [List.getElem?_eq_getElem hltt,htt]
       have hcs:=cnt_succ (p:=fun t=>has3 t a && has3 t b) hget
       obtain ⟨g,cap',e4,hgB,_,_,hsh,hR⟩:=((HK.out.sl HT.out (fun g e e2=>by have:=HT.out.own_ge e;have:=Option.some.inj e2;omega)).gr HQ.out).sr.block (by intro e;rw [e]at hltt;simp at hltt)
       injection e4 with e4 _ e5
       subst e4 e5
       have hglt:=hsh.lt
       obtain ⟨u0,u1,u2⟩:=hR.fTri hltt htt
       clear hR hsh htt
       have hHa:=ms_Has tt a
       have hHb:=ms_Has tt b
       skip
       obtain ⟨c0,hc0⟩:∃c,(TR.take t).countP (fun t=>has3 t a && has3 t b)=c:=⟨_,rfl⟩
       rw [hc0]at hcl hcs ⊢
       clear hc0
       try dsimp only at hcs
       have hwc:IntKind.i64.wrap ((c0:Int)+1)=((c0+1:Nat):Int):=by rw [wrap64_id (by omega) (by omega)];omega
       cases hh:has3 tt a
       ·rw [hh]at hcs hHa
        replace hHa:=Lh hHa
        clear hHb
        rw [Bool.false_and,if_neg (by simp)]at hcs
        replace hcs:=Lh hcs
        go_wp2_with fail
        (refine rtu (hHa.out _) fun w2 hsz2 hl2 hc2 hf2 HG2=>?_;(try simp at hsz2))
        go_wp2
        go_roundw
        case rel=>exact⟨t+1,by omega,by go_num,by rw [hcs.out];rfl,Lh (by exact gcc HG2 (gcc HQ gzz))⟩
        case measure=>simp [intOf];omega
       ·rw [hh]at hcs hHa
        replace hHa:=Lh hHa
        cases hh2:has3 tt b
        ·rw [hh2]at hcs hHb
         replace hHb:=Lh hHb
         rw [Bool.true_and,if_neg (by simp)]at hcs
         replace hcs:=Lh hcs
         go_wp2_with fail
         (refine rtu (hHa.out _) fun w2 hsz2 hl2 hc2 hf2 HG2=>?_;(try simp at hsz2))
         go_wp2_with fail
         (refine rtu (hHb.out _) fun w3 hsz3 hl3 hc3 hf3 HG3=>?_;(try simp at hsz3))
         go_wp2
         go_roundw
         case rel=>exact⟨t+1,by omega,by go_num,by rw [hcs.out];rfl,Lh (by exact gcc HG3 (gcc HG2 (gcc HQ gzz)))⟩
         case measure=>simp [intOf];omega
        ·rw [hh2]at hcs hHb
         replace hHb:=Lh hHb
         rw [Bool.true_and,if_pos rfl]at hcs
         replace hcs:=Lh hcs
         go_wp2_with fail
         (refine rtu (hHa.out _) fun w2 hsz2 hl2 hc2 hf2 HG2=>?_;(try simp at hsz2))
         go_wp2_with fail
         (refine rtu (hHb.out _) fun w3 hsz3 hl3 hc3 hf3 HG3=>?_;(try simp at hsz3))
         go_wp2
         go_roundw
         case rel=>exact⟨t+1,by omega,by go_num,by rw [hcs.out];rfl,Lh (by exact gcc HG3 (gcc HG2 (gcc HQ gzz)))⟩
         case measure=>simp [intOf];omega
      ·have htl:t=TR.length:=by omega
       subst htl
       rw [List.take_length]at hcl ⊢
       obtain ⟨c0,hc0⟩:∃c,TR.countP (fun t=>has3 t a && has3 t b)=c:=⟨_,rfl⟩
       have hrs:=rowS_succ TR f hab
       rw [hc0]at hcl hrs ⊢
       clear hc0
       have hNN:a*N≤200*200:=Nat.mul_le_mul (by omega) hN
       have hmb:=HM.out.lt
       have c8:=((HK.out.cell hmb (fun e=>by have:=Option.some.inj e;omega)).trans (HM.out.c 8 _ HF8.out))
       have c8':wr.cell? ⟨w.heap.size,8,none⟩=some (.int .u8 (f:Int)):=(HQ.out.cell (p:=⟨w.heap.size,8,none⟩) (Nat.lt_of_lt_of_le hmb hszr)).trans c8
       clear c8
       by_cases hc1:c0=1
       ·subst hc1
        rw [if_pos rfl]at hrs
        obtain ⟨r,hr⟩:∃r,(a+3*b+f) % 5=r:=⟨_,rfl⟩
        rw [hr]at hrs
        have w1:IntKind.i64.wrap (3*(b:Int))=3*(b:Int):=wrap64_id (by omega) (by omega)
        have w2:IntKind.i64.wrap ((a:Int)+3*(b:Int))=(a:Int)+3*(b:Int):=wrap64_id (by omega) (by omega)
        have w3:IntKind.i64.wrap ((a:Int)+3*(b:Int)+(f:Int))=(a:Int)+3*(b:Int)+(f:Int):=wrap64_id (by omega) (by omega)
        have w4:((a:Int)+3*(b:Int)+(f:Int)).tmod 5=(r:Int):=by rw [Int.tmod_eq_emod_of_nonneg (by omega)];omega
        have w5:((a:Int)+3*(b:Int)+(f:Int)) % 5=(r:Int):=by omega
        have w6:IntKind.i64.wrap (r:Int)=(r:Int):=wrap64_id (by omega) (by omega)
        replace hrs:=Lh hrs
        clear hr
        go_wp2_with (at_builtin;refine wpList_appS _ rfl _ _ 32 rfl W.heap.size i0 _ 24 Tryz.underlying32 HI.out.1 HI.out.2.1 HI.out.2.2.1 HI.out.2.2.2 rfl (by decide) triC_len triC_one _ acc rfl ((HV.out.gr HQ.out).gr (by exact gzz)) wr.heap.size _ [(a,b,r)] 1 rfl rfl (RC.new1' (by simp) rfl) (by simp [maxLen];omega) (by simp;omega) (by simp;omega) ?_;intro v' w4 hS4 hkp4 hown;clear hown;obtain ⟨pa4,pc4,e4⟩:=hS4.at;obtain ⟨n4,hn4⟩:∃n,(acc++ [(a,b,r)]).length=n:=⟨_,rfl⟩;rw [hn4]at e4;subst e4;clear hn4;have HS4:=Lh (And.intro hS4 hkp4);have hsz4:=hkp4.g.size;(try simp at hsz4);have hsb4:w.heap.size+1+1<w4.heap.size:=(by omega);have b4:=(((HS.out.gr HQ.out hsl).gr (show Gr wr.heap.size wr _ from by exact gzz) (by omega)).kp hkp4 (fun e=>by have:=HV.out.own_ge e.symm;omega));obtain ⟨d0,d1,d2,f0,f1,f2⟩:=b4.three';have HB4:=Lh b4;clear b4 hS4 hkp4)
        go_roundw
        case rel=>exact⟨b+1,.slice pa4 n4 pc4,by omega,by omega,by go_num,Lh (HB4.out.one 2 (.slice pa4 n4 pc4) (by simp)),Lh (by rw [hrs.out,←List.append_assoc,hacc.out];exact SL.far HS4.out.1 (by simp;omega) _),Lh (((HK.out.trans ((HQ.out.kp _).trans ((show Gr wr.heap.size wr _ from by exact gzz).kp _))).far HS4.out.2 (fun g e=>HV.out.own_ge e)).trans (Kp.sets w4 (w.heap.size+1+1) 2 [.slice pa4 n4 pc4]))⟩
        case measure=>simp [intOf];omega
       ·rw [if_neg hc1,List.append_nil]at hrs
        have hne1:((c0:Int) == 1)=false:=by simp;omega
        go_wp2
        go_roundw
        case rel=>exact⟨b+1,_,by omega,by omega,by go_num,Lh (HS.out.gr HQ.out hsl),Lh (by rw [hrs,hacc.out];exact HV.out.gr HQ.out),Lh (HK.out.trans (HQ.out.kp _))⟩
        case measure=>simp [intOf];omega
    ·have hbn:b=N:=by omega
     subst hbn
     go_wp2
     go_roundw
     case rel=>exact⟨a+1,_,by omega,by go_num,HS,Lh (by rw [sdTo_succ,hacc.out];exact HV.out),HK⟩
     case measure=>simp [intOf];omega
  ·have han:a=N:=by omega
   subst han
   have hsl:=HS.out.lt
   obtain ⟨b0,b1,b2,-⟩:=HS.out.three'
   have hrlt:=HR.out.lt
   have HR2:=Lh (show VB wr (w.heap.size+1) [.slice none 0 0,.slice none 0 0,.slice none 0 0]from⟨fun j v hv=>(HK.out.cell hrlt (fun e=>by have:=Option.some.inj e;omega)).trans (HR.out.c j v hv),fun j hj=>(World.frozen?_of_block (a:=⟨w.heap.size+1,j,none⟩) (HK.out.g.block (w.heap.size+1) hrlt (fun e=>absurd (Option.some.inj e) (by omega)))).trans (HR.out.f j hj),Nat.lt_of_lt_of_le hrlt hszr⟩)
   obtain ⟨r0,r1,r2,s0,s1,s2⟩:=HR2.out.three'
   have hrl2:=HR2.out.lt
   have hP2:=HK.out.sl HP.out (fun g e e2=>by have:=HP.out.own_ge e;have:=Option.some.inj e2;omega)
   have hT2:=HK.out.sl HT.out (fun g e e2=>by have:=HT.out.own_ge e;have:=Option.some.inj e2;omega)
   have hS2:=HV.out
   have hGw:=HG.out.trans (HK.out.gr (B:=w.heap.size) (fun b e=>by have:=Option.some.inj e;omega) HG.out.size)
   replace hP2:=Lh hP2
   replace hT2:=Lh hT2
   replace hS2:=Lh hS2
   replace hGw:=Lh hGw
   go_wp2
   refine ret_row (g:=w.heap.size+1) (cs:= [.slice ap PT.length cp,.slice at_ TR.length ct,.slice as_ sda.length cs]) Tryz.results51 rfl ?_ Tryz.underlying116 rfl info_Wh rfl ⟨_,_,_,rfl,?_,?_,?_,?_⟩
   ·(with_reducible (repeat' (first|(refine VB.new' ?_;exact(by first|omega|(simp;done)|(simp;omega)))|apply VB.put2|apply VB.put3|apply VB.put5|refine VB.drew ?_|refine VB.far ?_ ?_ _|refine VB.alloc ?_ _|exact HR2.out|omega|(simp;done)|(simp;omega))))
   ·exact SL.mono (SL.far (SL.far (SL.far hP2.out (by simp) _) (by simp) _) (by simp) _) (by omega)
   ·exact SL.mono (SL.far (SL.far (SL.far hT2.out (by simp) _) (by simp) _) (by simp) _) (by omega)
   ·rw [hsda.out]
    exact SL.mono (SL.far (SL.far (SL.far hS2.out (by simp;omega) _) (by simp;omega) _) (by simp;omega) _) (by omega)
   ·exact gcc hGw gzz
end Go.Proofs.YtfgmdhjmgdccdaaGreat
namespace Go.Proofs.YtfgmdhjmgdccdaaGreat
open Go.RowKit Gus Go.Maps
abbrev p2I (p:P2):List Value:= [.int .i64 (p.1:Int),.int .i64 (p.2:Int)]
theorem p2I_len (p:P2):(p2I p).length=2:=rfl
theorem p2I_one (p:P2):∀v∈p2I p,v.oneCell'=true:=by simp [Value.oneCell']
theorem i2C_len (p:Int×Int):(i2C p).length=2:=rfl
theorem i2C_one (p:Int×Int):∀v∈i2C p,v.oneCell'=true:=by simp [Value.oneCell']
theorem info_bP2:(Tryz.prog.info? 154).map (fun i=>(i.zero,i.size,i.bytes))=some (some (.agg #[.int .i64 0,.int .i64 0]),2,16):=by kernel_rfl
theorem info_bI2:(Tryz.prog.info? 118).map (fun i=>(i.zero,i.size,i.bytes))=some (some (.agg #[.int .i64 0,.int .i64 0]),2,16):=by kernel_rfl
def cor3 (t:T2):Nat→P2
 | 0=>t.1
 | 1=>t.2.1
 | _=>t.2.2
theorem corners_at:∀(L:List T2) {t:Nat} (ht:t<L.length) {i:Nat} (_:i<3),(cornersOf L)[3*t+i]? =some (cor3 L[t] i)
 | [],_,ht,_,_=>absurd ht (by simp)
 | T :: L,0,_,i,hi=>by
  rcases(show i=0∨i=1∨i=2 by omega)with rfl|rfl|rfl<;>simp [cornersOf,cor3]
 | T :: L,t+1,ht,i,hi=>by
  have ih:=corners_at L (t:=t) (by simpa using ht) hi
  have e:cornersOf (T :: L)=T.1 :: T.2.1 :: T.2.2 :: cornersOf L:=by simp [cornersOf]
  rw [e,show 3*(t+1)+i=3*t+i+1+1+1 by omega]
  simp only [List.getElem?_cons_succ]
  rw [ih]
  simp
theorem corners_len (L:List T2):(cornersOf L).length=3*L.length:=by
 induction L with
 | nil=>rfl
 | cons T L ih=>
  have e:cornersOf (T :: L)=T.1 :: T.2.1 :: T.2.2 :: cornersOf L:=by simp [cornersOf]
  rw [e];simp only [List.length_cons,ih];omega
theorem place_idx {cs:List P2} {n:Nat} {p:P2} (h:cs[n]? =some p):(placesOf cs).idxOf p=(placesOf (cs.take n)).idxOf p:=by
 have h1:=places_succ h
 have h2:=idxOf_addp (placesOf (cs.take n)) p
 rw [←h1]at h2
 rw [←h2]
 refine idxOf_pre (places_take cs (n+1)) ?_
 rw [h1,addp_mem]
 exact .inr rfl
theorem fold_len_le (cs pl:List P2):(cs.foldl addp pl).length≤pl.length+cs.length:=by
 induction cs generalizing pl with
 | nil=>simp
 | cons c cs ih=>
  rw [List.foldl_cons]
  have h1:=ih (addp pl c)
  have h2:(addp pl c).length≤pl.length+1:=by unfold addp;split<;>simp
  simp only [List.length_cons]
  omega
theorem places_len (cs:List P2):(placesOf cs).length≤cs.length:=by have:=fold_len_le cs [];simpa [placesOf] using this
def fnd (pl:List P2) (p:P2) (k:Nat):Int:=if p∈pl.take k then(pl.idxOf p:Int)else -1
theorem fnd_zero (pl:List P2) (p:P2):fnd pl p 0= -1:=by simp [fnd]
theorem fnd_hit {pl:List P2} (hn:pl.Nodup) {p:P2} {k:Nat} (h:pl[k]? =some p):fnd pl p (k+1)=k:=by
 unfold fnd
 rw [if_pos (by rw [List.take_add_one,h];simp),idx_of hn h]
theorem fnd_miss {pl:List P2} {p q:P2} {k:Nat} (h:pl[k]? =some q) (hne:q≠p):fnd pl p (k+1)=fnd pl p k:=by
 unfold fnd
 rw [List.take_add_one,h]
 simp [Ne.symm hne]
theorem fnd_all (pl:List P2) (p:P2):fnd pl p pl.length=if p∈pl then(pl.idxOf p:Int)else -1:=by unfold fnd;rw [List.take_length]
set_option maxRecDepth 20000 in
set_option maxHeartbeats 4000000 in
theorem eql_P2 (x y:P2) (W:World):(binOp .eql 154 (.agg #[.int .i64 (x.1:Int),.int .i64 (x.2:Int)]) (.agg #[.int .i64 (y.1:Int),.int .i64 (y.2:Int)])).run Tryz.prog W= .ok (.bool (decide (x=y))) W:=by
 obtain ⟨i,hi⟩:∃i,Tryz.prog.info? 3=some i:=Option.isSome_iff_exists.1 (by kernel_rfl)
 have hc:Tryz.prog.cellsOf 3=1:=by kernel_rfl
 have h:=run_equalIn_array (P:=Tryz.prog) W 9999 (t:=154) (e:=3) (n:=2) #[.int .i64 (x.1:Int),.int .i64 (x.2:Int)] #[.int .i64 (y.1:Int),.int .i64 (y.2:Int)] Tryz.underlying154 hi
 rw [hc]at h
 rw [run_eql_struct,h]
 simp only [show List.range 2= [0,1]from rfl,Op.eqItems]
 go_simp
 obtain ⟨a,b⟩:=x
 obtain ⟨c,d⟩:=y
 by_cases h1:a=c
 ·subst h1
  by_cases h2:b=d
  ·subst h2;simp
  ·have h3:¬(b:Int)=(d:Int):=by omega
   simp [h2,h3]
 ·have h3:¬(a:Int)=(c:Int):=by omega
  simp [h1,h3]
end Go.Proofs.YtfgmdhjmgdccdaaGreat
namespace Go.Proofs.YtfgmdhjmgdccdaaGreat
open Go.RowKit Gus Go.Maps
section
variable {P:Program} (w:World) {o:Oper} {a:Act} {K:Act→World→Prop} {Q:Exit→Act→World→Prop}
theorem wp_appS {α:Type} {enc:α→List Value} {k:Nat} {t:TypeId} (s x:Operand) (ts:TypeId) (hop:o.op= .call {callee:= .builtin .append,args:= #[s,x],argTypes:= #[ts,ts]})
  (B:Nat) (i:TypeInfo) (z:Value) (bytes:Nat) (ht:P.underlying ts=some (.slice t)) (hi:P.info? t=some i) (hz:i.zero=some z) (hsize:i.size=k) (hby:i.bytes=bytes) (hzs:z.cells.size=k) (hk0:0<k) (hk:∀x,(enc x).length=k) (h1:∀x,∀v∈enc x,v.oneCell'=true)
  (v:Value) (l:List α) (hs:a.eval s=v) (hS:SL enc k t w B v l) (gx c:Nat) (l2:List α) (n2:Nat) (hn2:n2=l2.length) (hx:a.eval x= .slice (some ⟨gx,0,none⟩) n2 c) (hR:RC enc k w gx l2) (h63:l.length+l2.length≤maxLen) (hbytes:(l.length+l2.length)*bytes≤140737488355328) (hB:B≤w.heap.size)
  (h:∀v' w',SL enc k t w' B v' (l++l2)→Kp w w' v.ownBlock→(v'.ownBlock=v.ownBlock∨v'.ownBlock=some w.heap.size)→K (a.put o.dst v') w'):o.wp P a w K Q:=by
 subst hn2
 obtain ⟨v',w',hrun,h2,h3,_,h5⟩:=run_append_own_at (P:=P) w B ts o.type t i z k bytes ht hi hz hsize hby hzs hk0 v l.length (l.flatMap enc) (hS.own hk) ⟨gx,0,none⟩ l2.length c (l2.flatMap enc) (flat_len hk l2) (fun j u hj=>by rw [Addr.add_lit,Nat.zero_add];exact hR.flat hk j u hj) (fun u hu=>by
  obtain ⟨y,_,hy⟩:=List.mem_flatMap.1 hu
  exact h1 y u hy) h63 hbytes hB
 have hd:=run_drawn P _ _ _ _ hrun
 unfold Oper.wp execOp
 simp only [hop,resolve,invoke,builtin,Sem.run_bind,Sem.run_pure,Result.andThen_ok,List.map_toArray,List.map_cons,List.map_nil,hs,hx,hrun]
 refine h v' w' (SL.of_own ?_ hk) ⟨h3,hd⟩ h5
 rw [List.length_append,List.flatMap_append]
 exact h2
end
theorem wrapU8_id {n:Int} (h1:0≤n) (h2:n<256):IntKind.u8.wrap n=n:=by
 have h3:(2:Int) ^ IntKind.bits .u8=256:=by decide
 have h5:IntKind.signed .u8=false:=rfl
 simp only [IntKind.wrap,h3,h5,Bool.false_and,Bool.false_eq_true,if_false]
 omega
theorem RC.drew {α:Type} {enc:α→List Value} {k:Nat} {w:World} {g:Nat} {l:List α} (h:RC enc k w g l):RC enc k w.drew g l:=fun j hj i u hu=>h j hj i u hu
def Sep3 (a b c:Value):Prop:=(∀g,a.ownBlock=some g→b.ownBlock≠some g)∧(∀g,a.ownBlock=some g→c.ownBlock≠some g)∧(∀g,b.ownBlock=some g→c.ownBlock≠some g)
theorem Sep3.nil:Sep3 (.slice none 0 0) (.slice none 0 0) (.slice none 0 0):=by refine⟨?_,?_,?_⟩<;>(intro g h;simp [Value.ownBlock]at h)
theorem Sep3.a {a b c a':Value} {n:Nat} (h:Sep3 a b c) (ho:a'.ownBlock=a.ownBlock∨a'.ownBlock=some n) (hb:∀g,b.ownBlock=some g→g<n) (hc:∀g,c.ownBlock=some g→g<n):Sep3 a' b c:=by
 rcases ho with ho|ho
 ·exact⟨fun g e=>h.1 g (ho ▸ e),fun g e=>h.2.1 g (ho ▸ e),h.2.2⟩
 ·refine⟨fun g e e2=>?_,fun g e e2=>?_,h.2.2⟩
  ·rw [ho]at e;have:=Option.some.inj e;have:=hb g e2;omega
  ·rw [ho]at e;have:=Option.some.inj e;have:=hc g e2;omega
theorem Sep3.b {a b c b':Value} {n:Nat} (h:Sep3 a b c) (ho:b'.ownBlock=b.ownBlock∨b'.ownBlock=some n) (ha:∀g,a.ownBlock=some g→g<n) (hc:∀g,c.ownBlock=some g→g<n):Sep3 a b' c:=by
 rcases ho with ho|ho
 ·exact⟨fun g e=>ho ▸ h.1 g e,h.2.1,fun g e=>h.2.2 g (ho ▸ e)⟩
 ·refine⟨fun g e e2=>?_,h.2.1,fun g e e2=>?_⟩
  ·rw [ho]at e2;have:=Option.some.inj e2;have:=ha g e;omega
  ·rw [ho]at e;have:=Option.some.inj e;have:=hc g e2;omega
theorem Sep3.c {a b c c':Value} {n:Nat} (h:Sep3 a b c) (ho:c'.ownBlock=c.ownBlock∨c'.ownBlock=some n) (ha:∀g,a.ownBlock=some g→g<n) (hb:∀g,b.ownBlock=some g→g<n):Sep3 a b c':=by
 rcases ho with ho|ho
 ·exact⟨h.1,fun g e=>ho ▸ h.2.1 g e,fun g e=>ho ▸ h.2.2 g e⟩
 ·refine⟨h.1,fun g e e2=>?_,fun g e e2=>?_⟩
  ·rw [ho]at e2;have:=Option.some.inj e2;have:=ha g e;omega
  ·rw [ho]at e2;have:=Option.some.inj e2;have:=hb g e;omega
theorem RC.fT6 {w:World} {g:Nat} {l:List T2} (h:RC t6C 6 w g l) {t:Nat} (ht:t<l.length) {i:Nat} (hi:i<3) {p:P2} (hp:cor3 l[t] i=p):w.cell? ⟨g,t*6+i*2,none⟩=some (.int .i64 (p.1:Int))∧w.cell? ⟨g,t*6+i*2+1,none⟩=some (.int .i64 (p.2:Int)):=by
 subst hp
 rcases(show i=0∨i=1∨i=2 by omega)with rfl|rfl|rfl
 ·exact⟨h t ht 0 _ rfl,h t ht 1 _ rfl⟩
 ·exact⟨h t ht 2 _ rfl,h t ht 3 _ rfl⟩
 ·exact⟨h t ht 4 _ rfl,h t ht 5 _ rfl⟩
theorem RC.fP2 {w:World} {g:Nat} {l:List P2} (h:RC p2I 2 w g l) {k:Nat} (hk:k<l.length) {p:P2} (hp:l[k]=p):w.cell? ⟨g,k*2,none⟩=some (.int .i64 (p.1:Int))∧w.cell? ⟨g,k*2+1,none⟩=some (.int .i64 (p.2:Int)):=by
 subst hp
 exact⟨h k hk 0 _ rfl,h k hk 1 _ rfl⟩
theorem cor3_rot (t:T2) (r:Nat) {i:Nat} (hi:i<3):cor3 (rotT t r) i=cor3 t ((i+r) % 3):=by
 rcases(show r % 3=0∨r % 3=1∨r % 3=2 by omega)with h|h|h<;>rcases(show i=0∨i=1∨i=2 by omega)with rfl|rfl|rfl
 all_goals
  first
  | (have e:(0+r) % 3=0:=by omega)
  | (have e:(0+r) % 3=1:=by omega)
  | (have e:(0+r) % 3=2:=by omega)
  first
  | (have e':(1+r) % 3=0:=by omega)
  | (have e':(1+r) % 3=1:=by omega)
  | (have e':(1+r) % 3=2:=by omega)
  first
  | (have e'':(2+r) % 3=0:=by omega)
  | (have e'':(2+r) % 3=1:=by omega)
  | (have e'':(2+r) % 3=2:=by omega)
  unfold rotT
  rw [h]
  first
  | rw [e];rfl
  | rw [e'];rfl
  | rw [e''];rfl
def nnC (ix:Nat→Nat) (i:Nat):List Value:= [.int .i64 ((if 0<i then ix 0 else 0:Nat):Int),.int .i64 ((if 1<i then ix 1 else 0:Nat):Int),.int .i64 ((if 2<i then ix 2 else 0:Nat):Int)]
theorem nnC_set (ix:Nat→Nat) {i:Nat} (hi:i<3):(nnC ix i).set i (.int .i64 (ix i:Int))=nnC ix (i+1):=by
 rcases(show i=0∨i=1∨i=2 by omega)with rfl|rfl|rfl<;>simp [nnC]
end Go.Proofs.YtfgmdhjmgdccdaaGreat
