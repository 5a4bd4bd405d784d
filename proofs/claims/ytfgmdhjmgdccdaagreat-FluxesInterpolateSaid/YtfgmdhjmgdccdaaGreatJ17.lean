/-
  Part 17 of the proof: Apart SortB MeshG.
-/
import Derived.Test.YtfgmdhjmgdccdaaGreatJ14
import Derived.Test.YtfgmdhjmgdccdaaGreatJ15
set_option linter.unusedSimpArgs false
set_option linter.unusedVariables false
set_option maxHeartbeats 8000000
namespace Go.Proofs.YtfgmdhjmgdccdaaGreat
open Go.RowKit Gus
theorem wpList_stow {P:Program} {ops:Array Oper} {rest:List Oper} {op:Oper} {a:Act} {w:World} {Q:Exit→Act→World→Prop} (hgd:op.guard=none) (ty:TypeId) (x y:Operand) (ho:op.op= .store ty x y) (b:Nat) (cs old:List Value)
  (hx:a.eval x= .pointer (some ⟨b,0,none⟩)) (hy:a.eval y= .agg cs.toArray) (hv:VB w b old) (hl:cs.length=old.length) (hi:(P.info? ty).map (·.size)=some cs.length) (h1:∀v∈cs,v.oneCell'=true)
  (h:∀w',VB w' b cs→Gr b w w'→wpList P ops Q rest (a.put op.dst undef) w'):wpList P ops Q (op :: rest) a w:=
 wpList_store_mid hgd ty x y ho b 0 cs.toArray hx hy (by have:=hv.there;rw [←hl]at this;simpa using this) (by simpa using hi) (all_oneCell_toArray h1) (h _ (by simpa using hv.set cs hl) (by simpa using Gr.sets (Nat.le_refl _) cs 0 (Gr.refl b w)))
theorem pC_one' (p:Pt):∀v∈pC p,v.oneCell'=true:=by simp [Value.oneCell']
theorem c3C_one (a b c:Pt):∀v∈c3C a b c,v.oneCell'=true:=by simp [Value.oneCell']
set_option maxRecDepth 20000 in
theorem apart_raw (m:Msh) (vp vt vs:Value) (A B C:Nat→Pt) (w:World) (hM:MS w 0 vp vt vs m)
  (hC:∀j,j<m.tris.length→∀W,MS W 0 vp vt vs m→Calls Tryz.prog 137 #[.agg #[vp,vt,vs],.int .i64 (j:Int)] W (Ret W (c3V (A j) (B j) (C j))))
  (hB:∀i k,k<i→i<m.tris.length→∀W,Calls Tryz.prog 138 #[c3V (A i) (B i) (C i),c3V (A k) (B k) (C k)] W (Ret W (.bool true)))
  (hW:∀i t q p,m.tris[i]? =some t→m.pts[q]? =some p→hasT t q=false→∀W,Calls Tryz.prog 140 #[pV (A i),pV (B i),pV (C i),pV p] W (Ret W (.int .i64 0))):
  Calls Tryz.prog 99 #[.agg #[vp,vt,vs]] w (Ret w (.bool true)):=by
 have HM:=Lh hM
 have HC:=Lh hC
 have HB:=Lh hB
 have HW:=Lh hW
 obtain ⟨hP,hT,hS⟩:=hM
 obtain ⟨ap,cp,rfl⟩:=hP.at
 obtain ⟨at_,ct,rfl⟩:=hT.at
 obtain ⟨as_,cs,rfl⟩:=hS.at
 have l1:=hP.len
 have l2:=hT.len
 have hl1:(m.pts.length:Int)≤9223372036854775807:=by simp only [maxLen]at l1;omega
 have hl2:(m.tris.length:Int)≤9223372036854775807:=by simp only [maxLen]at l2;omega
 have HP:=Lh hP
 have HT:=Lh hT
 clear hP hT hS hC hB hW
 go_enter Tryz.func99,Tryz.ntmps99
 go_wp2
 have HV0:=Lh (VB.new w [.slice ap m.pts.length cp,.slice at_ m.tris.length ct,.slice as_ m.sides.length cs] 35)
 have HG0:=Lh (show Gr w.heap.size w (w.alloc (.cells #[.slice ap m.pts.length cp,.slice at_ m.tris.length ct,.slice as_ m.sides.length cs] 35))from by(with_reducible (repeat' (first|exact Gr.refl _ _|refine Gr.drew ?_|refine Gr.setCell ?_ ?_ _|refine Gr.alloc ?_ ?_ _|omega|(simp;done)|(simp;omega)))))
 generalize w.alloc (.cells #[.slice ap m.pts.length cp,.slice at_ m.tris.length ct,.slice as_ m.sides.length cs] 35)=w0 at *
 go_loopw [12] (fun s wr=> ∃i:Nat,i≤m.tris.length∧s= .int .i64 (i:Int)∧Hid (VB wr w.heap.size [.slice ap m.pts.length cp,.slice at_ m.tris.length ct,.slice as_ m.sides.length cs])∧Hid (Gr w.heap.size w wr)) (fun s _=>m.tris.length - (intOf s).toNat)
 case atStart=>exact⟨0,by omega,rfl,HV0,HG0⟩
 case round=>
  clear HV0 HG0
  obtain ⟨i,hi,rfl,HV,HG⟩:=hrel
  have hszr:=HG.out.size
  have hvl:=HV.out.lt
  obtain ⟨b0,b1,b2,_⟩:=HV.out.three
  by_cases hlt:i<m.tris.length
  ·have q0:(i:Int)<(m.tris.length:Int):=by omega
   have hwi:IntKind.i64.wrap ((i:Int)+1)=(i:Int)+1:=by rw [IntKind.wrap_i64];omega
   go_wp2_with (first|((go_at_call 137;refine(HC.out i hlt _ (HM.out.gr HG.out)).mono ?_;rintro e w2 ⟨rfl,hg2⟩;(try (with_reducible replace hg2:=Gr.of_drew hg2));have hsz2:=hg2.size;(try simp at hsz2);have hy2_0:w.heap.size<w2.heap.size:=(by omega);obtain ⟨hc2,hf2⟩:=hg2.cells;have HG2:=Lh hg2;clear hg2))|(refine wpList_stow rfl 197 _ _ rfl (w2.heap.size) (c3C (A i) (B i) (C i)) [.int .u64 0,.string ⟨#[]⟩,.bool false,.int .u64 0,.string ⟨#[]⟩,.int .u64 0,.string ⟨#[]⟩,.bool false,.int .u64 0,.string ⟨#[]⟩,.int .u64 0,.string ⟨#[]⟩,.bool false,.int .u64 0,.string ⟨#[]⟩,.int .u64 0,.string ⟨#[]⟩,.bool false,.int .u64 0,.string ⟨#[]⟩,.int .u64 0,.string ⟨#[]⟩,.bool false,.int .u64 0,.string ⟨#[]⟩,.int .u64 0,.string ⟨#[]⟩,.bool false,.int .u64 0,.string ⟨#[]⟩] rfl rfl (by(with_reducible (repeat' (first|(refine VB.new' ?_;exact(by first|omega|(simp;done)|(simp;omega)))|apply VB.put2|apply VB.put3|apply VB.put5|refine VB.drew ?_|refine VB.far ?_ ?_ _|refine VB.alloc ?_ _|omega|(simp;done)|(simp;omega))))) rfl info_P3 (c3C_one _ _ _) ?_;intro w3 hv3 hg3;have hsz3:=hg3.size;(try simp at hsz3);have HV3:=Lh (show VB w3 (w2.heap.size) (c3C (A i) (B i) (C i))from hv3);have HG3:=Lh (show Gr wr.heap.size wr w3 from((HG2.out).alloc (by omega) _).trans (hg3.mono (by omega)));clear hv3 hg3))
   have HVB3:=Lh (HV.out.gr HG3.out hvl)
   have hcl:=HV3.out.lt
   have hcg:wr.heap.size≤w2.heap.size:=hsz2
   clear HG2 hc2 hf2
   generalize w2.heap.size=cb at *
   go_loopw [19] (fun s wq=> ∃k:Nat,k≤i∧s= .int .i64 (k:Int)∧Hid (VB wq w.heap.size [.slice ap m.pts.length cp,.slice at_ m.tris.length ct,.slice as_ m.sides.length cs])∧Hid (VB wq cb (c3C (A i) (B i) (C i)))∧Hid (Gr wr.heap.size wr wq)) (fun s _=>i - (intOf s).toNat)
   case atStart=>exact⟨0,by omega,rfl,HVB3,HV3,HG3⟩
   case round=>
    rename_i wo
    clear HVB3 HV3 HG3 hsz3
    obtain ⟨k,hk,rfl,HVB,HVC,HG3⟩:=hrel
    have hszq:=HG3.out.size
    have hv0:=HVB.out.lt
    have hv1:=HVC.out.lt
    obtain ⟨b0,b1,b2,_⟩:=HVB.out.three
    by_cases hki:k<i
    ·have q1:(k:Int)<(i:Int):=by omega
     have hwk:IntKind.i64.wrap ((k:Int)+1)=(k:Int)+1:=by rw [IntKind.wrap_i64];omega
     go_wp2_with (first|((go_at_call 137;refine(HC.out k (by omega) _ (HM.out.gr (HG.out.trans (HG3.out.mono hszr)))).mono ?_;rintro e w4 ⟨rfl,hg4⟩;(try (with_reducible replace hg4:=Gr.of_drew hg4));have hsz4:=hg4.size;(try simp at hsz4);have hy4_0:w.heap.size<w4.heap.size:=(by omega);have hy4_1:cb<w4.heap.size:=(by omega);obtain ⟨hc4,hf4⟩:=hg4.cells;have HG4:=Lh hg4;clear hg4))|(refine wpList_stow rfl 197 _ _ rfl (w4.heap.size) (c3C (A k) (B k) (C k)) [.int .u64 0,.string ⟨#[]⟩,.bool false,.int .u64 0,.string ⟨#[]⟩,.int .u64 0,.string ⟨#[]⟩,.bool false,.int .u64 0,.string ⟨#[]⟩,.int .u64 0,.string ⟨#[]⟩,.bool false,.int .u64 0,.string ⟨#[]⟩,.int .u64 0,.string ⟨#[]⟩,.bool false,.int .u64 0,.string ⟨#[]⟩,.int .u64 0,.string ⟨#[]⟩,.bool false,.int .u64 0,.string ⟨#[]⟩,.int .u64 0,.string ⟨#[]⟩,.bool false,.int .u64 0,.string ⟨#[]⟩] rfl rfl (by(with_reducible (repeat' (first|(refine VB.new' ?_;exact(by first|omega|(simp;done)|(simp;omega)))|apply VB.put2|apply VB.put3|apply VB.put5|refine VB.drew ?_|refine VB.far ?_ ?_ _|refine VB.alloc ?_ _|omega|(simp;done)|(simp;omega))))) rfl info_P3 (c3C_one _ _ _) ?_;intro w5 hv5 hg5;have hsz5:=hg5.size;(try simp at hsz5);have HV5:=Lh (show VB w5 (w4.heap.size) (c3C (A k) (B k) (C k))from hv5);have HG5:=Lh (show Gr wr.heap.size wr w5 from((HG4.out).alloc (by omega) _).trans (hg5.mono (by omega)));clear hv5 hg5)|(refine wpList_load_mid rfl 197 _ rfl (cb) 0 rfl (c3C (A i) (B i) (C i)) _ (VB.range (HVC.out.gr HG5.out hv1)) Tryz.underlying197 rfl info_P3 ?_)|(refine wpList_load_mid rfl 197 _ rfl (w4.heap.size) 0 rfl (c3C (A k) (B k) (C k)) _ (VB.range (HV5.out)) Tryz.underlying197 rfl info_P3 ?_)|((go_at_call 138;refine(HB.out i k hki hlt _).mono ?_;rintro e w6 ⟨rfl,hg6⟩;(try (with_reducible replace hg6:=Gr.of_drew hg6));have hsz6:=hg6.size;(try simp at hsz6);have hy6_0:w.heap.size<w6.heap.size:=(by omega);have hy6_1:cb<w6.heap.size:=(by omega);obtain ⟨hc6,hf6⟩:=hg6.cells;have HG6:=Lh hg6;clear hg6)))
     go_roundw
     case rel=>exact⟨k+1,by omega,by go_num,Lh ((HVB.out.gr HG5.out hv0).gr HG6.out (by omega)),Lh ((HVC.out.gr HG5.out hv1).gr HG6.out (by omega)),Lh ((HG3.out.trans (HG5.out.mono hszq)).trans (HG6.out.mono (by omega)))⟩
     case measure=>simp [intOf];omega
    ·obtain rfl:k=i:=by omega
     go_wp2
     have HVB4:=Lh HVB.out
     have HVC4:=Lh HVC.out
     have HG4:=Lh (HG.out.trans (HG3.out.mono hszr))
     clear HVB HVC HG3 HG HV
     go_loopw [39] (fun s wq=> ∃q:Nat,q≤m.pts.length∧s= .int .i64 (q:Int)∧Hid (VB wq w.heap.size [.slice ap m.pts.length cp,.slice at_ m.tris.length ct,.slice as_ m.sides.length cs])∧Hid (VB wq cb (c3C (A k) (B k) (C k)))∧Hid (Gr w.heap.size w wq)) (fun s _=>m.pts.length - (intOf s).toNat)
     case atStart=>exact⟨0,by omega,rfl,HVB4,HVC4,HG4⟩
     case round=>
      rename_i wi
      clear HVB4 HVC4 HG4
      obtain ⟨q,hq,rfl,HVB,HVC,HG⟩:=hrel
      have hszx:=HG.out.size
      have hv2:=HVB.out.lt
      have hv3:=HVC.out.lt
      by_cases hqp:q<m.pts.length
      ·have q2:(q:Int)<(m.pts.length:Int):=by omega
       have hwq:IntKind.i64.wrap ((q:Int)+1)=(q:Int)+1:=by rw [IntKind.wrap_i64];omega
       obtain ⟨gp,cp',e1,_,_,_,hshp,hRp⟩:=(HP.out.gr HG.out).block (by intro e;rw [e]at hqp;simp at hqp)
       obtain ⟨gt,ct',e2,_,_,_,hsht,hRt⟩:=(HT.out.gr HG.out).block (by intro e;rw [e]at hlt;simp at hlt)
       have hgp:=hshp.lt
       have hgt:=hsht.lt
       cases e1
       cases e2
       obtain ⟨p,hp⟩:∃p,m.pts[q]=p:=⟨_,rfl⟩
       obtain ⟨t,ht⟩:∃t,m.tris[k]=t:=⟨_,rfl⟩
       obtain ⟨a0,a1,a2,a3,a4,a5,a6,a7,a8,a9⟩:=hRp.fPt hqp hp
       have HTT:=Lh hRt
       have HWW:=Lh (HW.out k t q p (by rw [←ht];exact List.getElem?_eq_getElem hlt) (by rw [←hp];exact List.getElem?_eq_getElem hqp))
       clear hshp hsht hRp hRt
       obtain ⟨b0,b1,b2,_⟩:=HVB.out.three
       obtain ⟨v0,v1,v2⟩:=HTT.out.fTri hlt ht
       have HCN:=Lh (contains3 t q gt (k*3) 3)
       have HVX:=Lh (VB.new wr (pC p) 64)
       have hcb:cb<wr.heap.size+1:=by omega
       have hwb:w.heap.size<wr.heap.size+1:=by omega
       have hgtb:gt<wr.heap.size+1:=by omega
       have hngt:¬gt=wr.heap.size:=by omega
       cases hh:hasT t q
       ·rw [hh]at HCN
        replace HWW:=Lh (HWW.out hh)
        have u0:=HVC.out.c 0 _ rfl
        have u1:=HVC.out.c 1 _ rfl
        have u2:=HVC.out.c 2 _ rfl
        have u3:=HVC.out.c 3 _ rfl
        have u4:=HVC.out.c 4 _ rfl
        have u5:=HVC.out.c 5 _ rfl
        have u6:=HVC.out.c 6 _ rfl
        have u7:=HVC.out.c 7 _ rfl
        have u8:=HVC.out.c 8 _ rfl
        have u9:=HVC.out.c 9 _ rfl
        have u10:=HVC.out.c 10 _ rfl
        have u11:=HVC.out.c 11 _ rfl
        have u12:=HVC.out.c 12 _ rfl
        have u13:=HVC.out.c 13 _ rfl
        have u14:=HVC.out.c 14 _ rfl
        have u15:=HVC.out.c 15 _ rfl
        have u16:=HVC.out.c 16 _ rfl
        have u17:=HVC.out.c 17 _ rfl
        have u18:=HVC.out.c 18 _ rfl
        have u19:=HVC.out.c 19 _ rfl
        have u20:=HVC.out.c 20 _ rfl
        have u21:=HVC.out.c 21 _ rfl
        have u22:=HVC.out.c 22 _ rfl
        have u23:=HVC.out.c 23 _ rfl
        have u24:=HVC.out.c 24 _ rfl
        have u25:=HVC.out.c 25 _ rfl
        have u26:=HVC.out.c 26 _ rfl
        have u27:=HVC.out.c 27 _ rfl
        have u28:=HVC.out.c 28 _ rfl
        have u29:=HVC.out.c 29 _ rfl
        go_wp2_with fail
        (refine(HCN.out _ (by simp [go_sem, *]) (by simp [go_sem, *]) (by simp [go_sem, *])).mono ?_;rintro e w8 ⟨rfl,hg8⟩;(try (with_reducible replace hg8:=Gr.of_drew hg8));have hsz8:=hg8.size;(try simp at hsz8);have hy8_0:w.heap.size<w8.heap.size:=(by omega);have hy8_1:cb<w8.heap.size:=(by omega);have hy8_2:wr.heap.size<w8.heap.size:=(by omega);obtain ⟨hc8,hf8⟩:=hg8.cells;have HG8:=Lh hg8;clear hg8)
        go_wp2_with fail
        (refine(HWW.out _).mono ?_;rintro e w9 ⟨rfl,hg9⟩;(try (with_reducible replace hg9:=Gr.of_drew hg9));have hsz9:=hg9.size;(try simp at hsz9);have hy9_0:w.heap.size<w9.heap.size:=(by omega);have hy9_1:cb<w9.heap.size:=(by omega);obtain ⟨hc9,hf9⟩:=hg9.cells;have HG9:=Lh hg9;clear hg9)
        go_wp2
        go_roundw
        case rel=>exact⟨q+1,by omega,by go_num,Lh (by(with_reducible (repeat' (first|(refine VB.new' ?_;exact(by first|omega|(simp;done)|(simp;omega)))|apply VB.put2|apply VB.put3|apply VB.put5|refine VB.drew ?_|refine VB.far ?_ ?_ _|refine VB.alloc ?_ _|exact HVB.out|refine VB.gr ?_ HG9.out ?_|refine VB.gr ?_ HG8.out ?_|omega|(simp;done)|(simp;omega))))),Lh (by(with_reducible (repeat' (first|(refine VB.new' ?_;exact(by first|omega|(simp;done)|(simp;omega)))|apply VB.put2|apply VB.put3|apply VB.put5|refine VB.drew ?_|refine VB.far ?_ ?_ _|refine VB.alloc ?_ _|exact HVC.out|refine VB.gr ?_ HG9.out ?_|refine VB.gr ?_ HG8.out ?_|omega|(simp;done)|(simp;omega))))),Lh (by(with_reducible (repeat' (first|exact Gr.refl _ _|refine Gr.drew ?_|refine Gr.setCell ?_ ?_ _|refine Gr.alloc ?_ ?_ _|refine Gr.trans ?_ (Gr.mono HG9.out ?_)|refine Gr.trans ?_ (Gr.mono HG8.out ?_)|refine Gr.trans ?_ (Gr.mono HG.out ?_)|omega|(simp;done)|(simp;omega)))))⟩
        case measure=>simp [intOf];omega
       ·rw [hh]at HCN
        clear HWW
        go_wp2_with fail
        (refine(HCN.out _ (by simp [go_sem, *]) (by simp [go_sem, *]) (by simp [go_sem, *])).mono ?_;rintro e w8 ⟨rfl,hg8⟩;(try (with_reducible replace hg8:=Gr.of_drew hg8));have hsz8:=hg8.size;(try simp at hsz8);have hy8_0:w.heap.size<w8.heap.size:=(by omega);have hy8_1:cb<w8.heap.size:=(by omega);obtain ⟨hc8,hf8⟩:=hg8.cells;have HG8:=Lh hg8;clear hg8)
        go_wp2
        go_roundw
        case rel=>exact⟨q+1,by omega,by go_num,Lh (by(with_reducible (repeat' (first|(refine VB.new' ?_;exact(by first|omega|(simp;done)|(simp;omega)))|apply VB.put2|apply VB.put3|apply VB.put5|refine VB.drew ?_|refine VB.far ?_ ?_ _|refine VB.alloc ?_ _|exact HVB.out|refine VB.gr ?_ HG8.out ?_|omega|(simp;done)|(simp;omega))))),Lh (by(with_reducible (repeat' (first|(refine VB.new' ?_;exact(by first|omega|(simp;done)|(simp;omega)))|apply VB.put2|apply VB.put3|apply VB.put5|refine VB.drew ?_|refine VB.far ?_ ?_ _|refine VB.alloc ?_ _|exact HVC.out|refine VB.gr ?_ HG8.out ?_|omega|(simp;done)|(simp;omega))))),Lh (by(with_reducible (repeat' (first|exact Gr.refl _ _|refine Gr.drew ?_|refine Gr.setCell ?_ ?_ _|refine Gr.alloc ?_ ?_ _|refine Gr.trans ?_ (Gr.mono HG8.out ?_)|refine Gr.trans ?_ (Gr.mono HG.out ?_)|omega|(simp;done)|(simp;omega)))))⟩
        case measure=>simp [intOf];omega
      ·obtain rfl:q=m.pts.length:=by omega
       go_wp2
       go_roundw
       case rel=>exact⟨k+1,by omega,by go_num,HVB,HG⟩
       case measure=>simp [intOf];omega
  ·obtain rfl:i=m.tris.length:=by omega
   go_wp2
   go_ret
   exact⟨rfl,HG.out⟩
end Go.Proofs.YtfgmdhjmgdccdaaGreat
namespace Go.Proofs.YtfgmdhjmgdccdaaGreat
open Go.RowKit Gus
theorem eC_len (e:Edg):(eC e).length=4:=rfl
theorem eC_one (x:Edg):∀v∈eC x,v.oneCell'=true:=by
 intro v hv
 simp only [eC,List.mem_cons,List.not_mem_nil,or_false]at hv
 rcases hv with rfl|rfl|rfl|rfl<;>rfl
theorem ordE_lt (x y:Edg):ordE x y<0↔x.a<y.a∨x.a=y.a∧x.b<y.b:=by
 unfold ordE
 rcases Int.lt_trichotomy x.a y.a with h|h|h
 ·rw [cI_lt _ _ h,if_neg (by omega)];omega
 ·rw [cI_eq _ _ h,if_pos rfl]
  rcases Int.lt_trichotomy x.b y.b with h2|h2|h2
  ·rw [cI_lt _ _ (by omega)];omega
  ·rw [cI_eq _ _ (by omega)];omega
  ·rw [cI_gt _ _ (by omega)];omega
 ·rw [cI_gt _ _ h,if_neg (by omega)];omega
theorem swo_E:Sort.SWO (ltOf ordE):=by
 have e:∀a b,ltOf ordE a b=decide (a.a<b.a∨a.a=b.a∧a.b<b.b):=fun a b=>decide_eq_decide.2 (ordE_lt a b)
 refine⟨fun x=>?_,fun x y z=>?_,fun x y z=>?_⟩
 ·rw [e];simp
 ·rw [e,e,e];simp only [decide_eq_true_eq];omega
 ·rw [e,e,e];simp only [decide_eq_false_iff_not];omega
theorem orders_E:Orders eV 72 #[] ordE:=
 ⟨enters_of Tryz.func72 (by kernel_rfl) rfl,fun W x y=>by rw [Array.append_empty];exact ms_ordE x y W⟩
theorem sort_Edge (l:List Edg) (B g cap:Nat) (w:World) (hS:SL eC 4 44 w B (.slice (some ⟨g,0,none⟩) l.length cap) l) (hl:l.length<4611686018427387904):
  Calls Tryz.prog 71 #[.slice (some ⟨g,0,none⟩) l.length cap,.func (.func 72) #[] #[]] w (fun e w'=>e= .returned (.tuple #[])∧∃l':List Edg,l'.Perm l∧(l'.Pairwise fun a b=> ¬ordE b a<0)∧SL eC 4 44 w' B (.slice (some ⟨g,0,none⟩) l.length cap) l'∧Gr B w w'):=by
 obtain ⟨g',cap',e1,hBg,hcap,hcm,hsh,hR⟩:∃g' cap',Value.slice (some ⟨g,0,none⟩) l.length cap= .slice (some ⟨g',0,none⟩) l.length cap'∧B≤g'∧l.length≤cap'∧cap'≤maxLen∧Sh w g' 44 (cap'*4)∧RC eC 4 w g' l:=by
  rcases hS with⟨h,_⟩|h
  ·cases h
  ·exact h
 cases e1
 have hglt:=hsh.lt
 have hH:Sort.HoldsK eC 4 w g 0 l.toArray:=hR.holds eC_len hsh.frozen
 have hP:Calls Tryz.prog 71 #[.slice (some ⟨g,0,none⟩) l.length cap,.func (.func 72) #[] #[]] w (fun e w'=>e= .returned (.tuple #[])∧∃d' n os,Sort.PermIn 0 l.length l.toArray d'∧Sort.SortedIn (ltOf ordE) 0 l.length d'∧w'=sortWorldK eC 4 w g 0 n d' os):=
  AnyQ.slices_SortFunc Tryz.sortEdge 4 Tryz.isAgg44 Tryz.sizeOf44 eC eC_len eC_one ordE swo_E _ #[] g 0 cap l.toArray w orders_E.1 (orders_E.lays g 0 _ w) hH hglt hl
 refine hP.mono ?_
 rintro e w' ⟨he,d,n,os,hd,hD,rfl⟩
 have hsz:d.size=l.length:=hd.1
 refine⟨he,d.toList,?_,?_,SL.sorted hS eC_len n d hsz os,Gr.sorted hBg hglt n d os⟩
 ·have:=hd.2.2
  have e1:d.extract 0 l.length=d:=by rw [←hsz];simp
  rw [e1]at this
  simpa using this
 ·rw [List.pairwise_iff_getElem]
  intro i j hi hj hij
  have:=hD i j (Nat.zero_le _) hij (by simp at hj;omega)
  have hi':i<d.size:=by simpa using hi
  have hj':j<d.size:=by simpa using hj
  rw [getElem!_pos d j hj',getElem!_pos d i hi']at this
  simpa [ltOf] using this
set_option maxRecDepth 20000 in
set_option maxHeartbeats 4000000 in
theorem clip_Edge (l:List Edg) (v:Value) (B:Nat) (w:World) (hS:SR eC 4 44 w B v l):Calls Tryz.prog 75 #[v] w (fun e w'=> ∃v',e= .returned v'∧SR eC 4 44 w' B v' l∧Gr w.heap.size w w'):=by
 obtain ⟨a,c,rfl⟩:=hS.at
 obtain ⟨_,h1,h2⟩:=hS.cap
 have HS:=Lh hS.clip
 have hl1:(l.length:Int)≤(c:Int):=by omega
 have hl2:(c:Int)≤9223372036854775807:=by simp only [maxLen]at h2;omega
 clear hS h2
 go_enter Tryz.func75,Tryz.ntmps75
 go_wp2
 go_ret
 exact⟨_,rfl,HS.out,Gr.refl _ _⟩
end Go.Proofs.YtfgmdhjmgdccdaaGreat
namespace Go.Proofs.YtfgmdhjmgdccdaaGreat
open Go.RowKit Gus
set_option maxRecDepth 20000 in
set_option maxHeartbeats 4000000 in
theorem rimmed_raw (m:Msh) (rs:List Tri) (vp vt vs:Value) (w:World) (hM:MS w 0 vp vt vs m) (hR:∀W,MS W 0 vp vt vs m→Calls Tryz.prog 66 #[vp,vt] W (fun e w'=> ∃v,e= .returned v∧SR triC 3 123 w' 0 v rs∧Gr W.heap.size W w'))
  (hlm:m.sides.map (fun t=>(t.1,t.2.1))=rs.map (fun t=>(t.1,t.2.1))):Calls Tryz.prog 100 #[.agg #[vp,vt,vs]] w (Ret w (.bool true)):=by
 have HM:=Lh hM
 have hR:=Lh hR
 have HL:=Lh hlm
 obtain ⟨hP,hT,hS⟩:=hM
 obtain ⟨ap,cp,rfl⟩:=hP.at
 obtain ⟨at_,ct,rfl⟩:=hT.at
 obtain ⟨as_,cs,rfl⟩:=hS.at
 clear hP hT hS hlm
 go_enter Tryz.func100,Tryz.ntmps100
 go_wp2_with fail
 refine wp_region_held_drew (S:=(fun w'=>w'.cell? ⟨w.heap.size,0,none⟩=some (.slice ap m.pts.length cp)∧w'.cell? ⟨w.heap.size,1,none⟩=some (.slice at_ m.tris.length ct)∧w'.cell? ⟨w.heap.size,2,none⟩=some (.slice as_ m.sides.length cs))) (by kernel_rfl) ?_ (fun hHeld=>?_)
 ·simp [go_sem, *]
 refine tq 0 3 (.pointer (some ⟨w.heap.size,2,none⟩)) ?_
 refine tq 1 4 (.slice as_ m.sides.length cs) ?_
 refine tq 2 5 (.pointer (some ⟨w.heap.size,0,none⟩)) ?_
 refine tq 3 6 (.slice ap m.pts.length cp) ?_
 refine tq 4 7 (.pointer (some ⟨w.heap.size,1,none⟩)) ?_
 refine tq 5 8 (.slice at_ m.tris.length ct) ?_
 refine rd 6 (fun K hK=>?_)
 go_simp
 (refine rtv (hR.out _ (by exact HM.out.gr (by exact gzz))) fun w2 v2 HS2 hsz2 hl2 hc2 hf2 HG2=>?_;(try simp at hsz2))
 refine kO hK fun hH2=>?_
 clear hK K hHeld
 refine rd 7 (fun K hK=>?_)
 go_simp
 (refine rtu (same_Side m.sides rs _ v2 _ (by exact HM.out.2.2.gr (by exact gcc HG2 gzz)) (by exact HS2.out.gr (by exact gzz)) HL.out) fun w3 hsz3 hl3 hc3 hf3 HG3=>?_;(try simp at hsz3))
 refine kO hK fun hH3=>?_
 clear hK K hH2
 refine tq 8 2 (.bool true) ?_
 refine wpAnyH_done (by kernel_rfl) ?_ _
 go_wp2
 go_ret
 exact⟨rfl,by exact gcc HG3 (gcc HG2 gzz)⟩
end Go.Proofs.YtfgmdhjmgdccdaaGreat
