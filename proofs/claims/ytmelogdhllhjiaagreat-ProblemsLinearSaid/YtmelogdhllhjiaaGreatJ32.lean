/-
  Part 32 of the proof: Apart OnceK OnceS.
-/
import Derived.Test.YtmelogdhllhjiaaGreatJ20
import Derived.Test.YtmelogdhllhjiaaGreatJ24
import Derived.Test.YtmelogdhllhjiaaGreatJ17
import Derived.Test.YtmelogdhllhjiaaGreatJ25
import Derived.Test.YtmelogdhllhjiaaGreatJ21
import Derived.Maps.RangeWalk
import Derived.WideKeyEntry
set_option linter.unusedSimpArgs false
set_option linter.unusedVariables false
namespace Go.Proofs.YtmelogdhllhjiaaGreat
open Go.RowKit Gus
theorem wpList_stow {P:Program} {ops:Array Oper} {rest:List Oper} {op:Oper} {a:Act} {w:World} {Q:Exit→Act→World→Prop} (hgd:op.guard=none) (ty:TypeId) (x y:Operand) (ho:op.op= .store ty x y) (b:Nat) (cs old:List Value)
  (hx:a.eval x= .pointer (some ⟨b,0,none⟩)) (hy:a.eval y= .agg cs.toArray) (hv:VB w b old) (hl:cs.length=old.length) (hi:(P.info? ty).map (·.size)=some cs.length) (h1:∀v∈cs,v.oneCell'=true)
  (h:∀w',VB w' b cs→Gr b w w'→wpList P ops Q rest (a.put op.dst undef) w'):wpList P ops Q (op :: rest) a w:=
 wpList_store_mid hgd ty x y ho b 0 cs.toArray hx hy (by have:=hv.there;rw [←hl]at this;simpa using this) (by simpa using hi) (all_oneCell_toArray h1) (h _ (by simpa using hv.set cs hl) (by simpa using Gr.sets (Nat.le_refl _) cs 0 (Gr.refl b w)))
theorem pC_one' (p:Pt):∀v∈pC p,v.oneCell'=true:=by simp [Value.oneCell']
theorem c3C_one (a b c:Pt):∀v∈c3C a b c,v.oneCell'=true:=by simp [Value.oneCell']
set_option maxRecDepth 20000 in
set_option maxHeartbeats 8000000 in
theorem apart_raw (m:Msh) (vp vt vs:Value) (A B C:Nat→Pt) (w:World) (hM:MS w 0 vp vt vs m)
  (hC:∀j,j<m.tris.length→∀W,MS W 0 vp vt vs m→Calls Tryz.prog 167 #[.agg #[vp,vt,vs],.int .i64 (j:Int)] W (Ret W (c3V (A j) (B j) (C j))))
  (hB:∀i k,k<i→i<m.tris.length→∀W,Calls Tryz.prog 168 #[c3V (A i) (B i) (C i),c3V (A k) (B k) (C k)] W (Ret W (.bool true)))
  (hW:∀i t q p,m.tris[i]? =some t→m.pts[q]? =some p→hasT t q=false→∀W,Calls Tryz.prog 169 #[pV (A i),pV (B i),pV (C i),pV p] W (Ret W (.int .i64 0))):
  Calls Tryz.prog 140 #[.agg #[vp,vt,vs]] w (Ret w (.bool true)):=by
 have HM:=Lib.hid hM
 have HC:=Lib.hid hC
 have HB:=Lib.hid hB
 have HW:=Lib.hid hW
 obtain ⟨hP,hT,hS⟩:=hM
 obtain ⟨ap,cp,rfl⟩:=hP.at
 obtain ⟨at_,ct,rfl⟩:=hT.at
 obtain ⟨as_,cs,rfl⟩:=hS.at
 have l1:=hP.len
 have l2:=hT.len
 have hl1:(m.pts.length:Int)≤9223372036854775807:=by simp only [maxLen]at l1;omega
 have hl2:(m.tris.length:Int)≤9223372036854775807:=by simp only [maxLen]at l2;omega
 have HP:=Lib.hid hP
 have HT:=Lib.hid hT
 clear hP hT hS hC hB hW
 go_enter Tryz.func140,Tryz.ntmps140
 go_wp2
 have HV0:=Lib.hid (VB.new w [.slice ap m.pts.length cp,.slice at_ m.tris.length ct,.slice as_ m.sides.length cs] 63)
 have HG0:=Lib.hid (show Gr w.heap.size w (w.alloc (.cells #[.slice ap m.pts.length cp,.slice at_ m.tris.length ct,.slice as_ m.sides.length cs] 63))from by(with_reducible (repeat' (first|exact Gr.refl _ _|refine Gr.drew ?_|refine Gr.setCell ?_ ?_ _|refine Gr.alloc ?_ ?_ _|omega|(simp;done)|(simp;omega)))))
 generalize w.alloc (.cells #[.slice ap m.pts.length cp,.slice at_ m.tris.length ct,.slice as_ m.sides.length cs] 63)=w0 at *
 go_loopw [12] (fun s wr=> ∃i:Nat,i≤m.tris.length∧s= .int .i64 (i:Int)∧Hid (VB wr w.heap.size [.slice ap m.pts.length cp,.slice at_ m.tris.length ct,.slice as_ m.sides.length cs])∧Hid (Gr w.heap.size w wr)) (fun s _=>m.tris.length - (intOf s).toNat)
 case atStart=>exact⟨0,by omega,rfl,HV0,HG0⟩
 case round=>
  clear HV0 HG0
  obtain ⟨i,hi,rfl,HV,HG⟩:=hrel
  have hszr:=HG.out.size
  have hvl:=HV.out.lt
  obtain ⟨b0,b1,b2,_⟩:=HV.out.three
  by_cases hlt:i<m.tris.length
  ·have q0:(i:Int)<(m.tris.length:Int):=by omega
   have hwi:IntKind.i64.wrap ((i:Int)+1)=(i:Int)+1:=by rw [IntKind.wrap_i64];omega
   go_wp2_with (first|((go_at_call 167;refine(HC.out i hlt _ (HM.out.gr HG.out)).mono ?_;rintro e w2 ⟨rfl,hg2⟩;(try (with_reducible replace hg2:=Gr.of_drew hg2));have hsz2:=hg2.size;(try simp at hsz2);have hy2_0:w.heap.size<w2.heap.size:=(by omega);obtain ⟨hc2,hf2⟩:=hg2.cells;have HG2:=Lib.hid hg2;clear hg2))|(refine wpList_stow rfl 225 _ _ rfl (w2.heap.size) (c3C (A i) (B i) (C i)) [.int .u64 0,.string ⟨#[]⟩,.bool false,.int .u64 0,.string ⟨#[]⟩,.int .u64 0,.string ⟨#[]⟩,.bool false,.int .u64 0,.string ⟨#[]⟩,.int .u64 0,.string ⟨#[]⟩,.bool false,.int .u64 0,.string ⟨#[]⟩,.int .u64 0,.string ⟨#[]⟩,.bool false,.int .u64 0,.string ⟨#[]⟩,.int .u64 0,.string ⟨#[]⟩,.bool false,.int .u64 0,.string ⟨#[]⟩,.int .u64 0,.string ⟨#[]⟩,.bool false,.int .u64 0,.string ⟨#[]⟩] rfl rfl (by(with_reducible (repeat' (first|(refine VB.new' ?_;exact(by first|omega|(simp;done)|(simp;omega)))|apply VB.put2|apply VB.put3|apply VB.put5|refine VB.drew ?_|refine VB.far ?_ ?_ _|refine VB.alloc ?_ _|omega|(simp;done)|(simp;omega))))) rfl info_P3 (c3C_one _ _ _) ?_;intro w3 hv3 hg3;have hsz3:=hg3.size;(try simp at hsz3);have HV3:=Lib.hid (show VB w3 (w2.heap.size) (c3C (A i) (B i) (C i))from hv3);have HG3:=Lib.hid (show Gr wr.heap.size wr w3 from((HG2.out).alloc (by omega) _).trans (hg3.mono (by omega)));clear hv3 hg3))
   have HVB3:=Lib.hid (HV.out.gr HG3.out hvl)
   have hcl:=HV3.out.lt
   have hcg:wr.heap.size≤w2.heap.size:=hsz2
   clear HG2 hc2 hf2
   generalize w2.heap.size=cb at *
   go_loopw [19] (fun s wq=> ∃k:Nat,k≤i∧s= .int .i64 (k:Int)∧Hid (VB wq w.heap.size [.slice ap m.pts.length cp,.slice at_ m.tris.length ct,.slice as_ m.sides.length cs])∧Hid (VB wq cb (c3C (A i) (B i) (C i)))∧Hid (Gr wr.heap.size wr wq)) (fun s _=>i - (intOf s).toNat)
   case atStart=>exact⟨0,by omega,rfl,HVB3,HV3,HG3⟩
   case round=>
    rename_i wo
    clear HVB3 HV3 HG3 hsz3
    obtain ⟨k,hk,rfl,HVB,HVC,HG3⟩:=hrel
    have hszq:=HG3.out.size
    have hv0:=HVB.out.lt
    have hv1:=HVC.out.lt
    obtain ⟨b0,b1,b2,_⟩:=HVB.out.three
    by_cases hki:k<i
    ·have q1:(k:Int)<(i:Int):=by omega
     have hwk:IntKind.i64.wrap ((k:Int)+1)=(k:Int)+1:=by rw [IntKind.wrap_i64];omega
     go_wp2_with (first|((go_at_call 167;refine(HC.out k (by omega) _ (HM.out.gr (HG.out.trans (HG3.out.mono hszr)))).mono ?_;rintro e w4 ⟨rfl,hg4⟩;(try (with_reducible replace hg4:=Gr.of_drew hg4));have hsz4:=hg4.size;(try simp at hsz4);have hy4_0:w.heap.size<w4.heap.size:=(by omega);have hy4_1:cb<w4.heap.size:=(by omega);obtain ⟨hc4,hf4⟩:=hg4.cells;have HG4:=Lib.hid hg4;clear hg4))|(refine wpList_stow rfl 225 _ _ rfl (w4.heap.size) (c3C (A k) (B k) (C k)) [.int .u64 0,.string ⟨#[]⟩,.bool false,.int .u64 0,.string ⟨#[]⟩,.int .u64 0,.string ⟨#[]⟩,.bool false,.int .u64 0,.string ⟨#[]⟩,.int .u64 0,.string ⟨#[]⟩,.bool false,.int .u64 0,.string ⟨#[]⟩,.int .u64 0,.string ⟨#[]⟩,.bool false,.int .u64 0,.string ⟨#[]⟩,.int .u64 0,.string ⟨#[]⟩,.bool false,.int .u64 0,.string ⟨#[]⟩,.int .u64 0,.string ⟨#[]⟩,.bool false,.int .u64 0,.string ⟨#[]⟩] rfl rfl (by(with_reducible (repeat' (first|(refine VB.new' ?_;exact(by first|omega|(simp;done)|(simp;omega)))|apply VB.put2|apply VB.put3|apply VB.put5|refine VB.drew ?_|refine VB.far ?_ ?_ _|refine VB.alloc ?_ _|omega|(simp;done)|(simp;omega))))) rfl info_P3 (c3C_one _ _ _) ?_;intro w5 hv5 hg5;have hsz5:=hg5.size;(try simp at hsz5);have HV5:=Lib.hid (show VB w5 (w4.heap.size) (c3C (A k) (B k) (C k))from hv5);have HG5:=Lib.hid (show Gr wr.heap.size wr w5 from((HG4.out).alloc (by omega) _).trans (hg5.mono (by omega)));clear hv5 hg5)|(refine wpList_load_mid rfl 225 _ rfl (cb) 0 rfl (c3C (A i) (B i) (C i)) _ (VB.range (HVC.out.gr HG5.out hv1)) Tryz.underlying225 rfl info_P3 ?_)|(refine wpList_load_mid rfl 225 _ rfl (w4.heap.size) 0 rfl (c3C (A k) (B k) (C k)) _ (VB.range (HV5.out)) Tryz.underlying225 rfl info_P3 ?_)|((go_at_call 168;refine(HB.out i k hki hlt _).mono ?_;rintro e w6 ⟨rfl,hg6⟩;(try (with_reducible replace hg6:=Gr.of_drew hg6));have hsz6:=hg6.size;(try simp at hsz6);have hy6_0:w.heap.size<w6.heap.size:=(by omega);have hy6_1:cb<w6.heap.size:=(by omega);obtain ⟨hc6,hf6⟩:=hg6.cells;have HG6:=Lib.hid hg6;clear hg6)))
     go_roundw
     case rel=>exact⟨k+1,by omega,by go_num,Lib.hid ((HVB.out.gr HG5.out hv0).gr HG6.out (by omega)),Lib.hid ((HVC.out.gr HG5.out hv1).gr HG6.out (by omega)),Lib.hid ((HG3.out.trans (HG5.out.mono hszq)).trans (HG6.out.mono (by omega)))⟩
     case measure=>simp [intOf];omega
    ·obtain rfl:k=i:=by omega
     go_wp2
     have HVB4:=Lib.hid HVB.out
     have HVC4:=Lib.hid HVC.out
     have HG4:=Lib.hid (HG.out.trans (HG3.out.mono hszr))
     clear HVB HVC HG3 HG HV
     go_loopw [39] (fun s wq=> ∃q:Nat,q≤m.pts.length∧s= .int .i64 (q:Int)∧Hid (VB wq w.heap.size [.slice ap m.pts.length cp,.slice at_ m.tris.length ct,.slice as_ m.sides.length cs])∧Hid (VB wq cb (c3C (A k) (B k) (C k)))∧Hid (Gr w.heap.size w wq)) (fun s _=>m.pts.length - (intOf s).toNat)
     case atStart=>exact⟨0,by omega,rfl,HVB4,HVC4,HG4⟩
     case round=>
      rename_i wi
      clear HVB4 HVC4 HG4
      obtain ⟨q,hq,rfl,HVB,HVC,HG⟩:=hrel
      have hszx:=HG.out.size
      have hv2:=HVB.out.lt
      have hv3:=HVC.out.lt
      by_cases hqp:q<m.pts.length
      ·have q2:(q:Int)<(m.pts.length:Int):=by omega
       have hwq:IntKind.i64.wrap ((q:Int)+1)=(q:Int)+1:=by rw [IntKind.wrap_i64];omega
       obtain ⟨gp,cp',e1,_,_,_,hshp,hRp⟩:=(HP.out.gr HG.out).block (by intro e;rw [e]at hqp;simp at hqp)
       obtain ⟨gt,ct',e2,_,_,_,hsht,hRt⟩:=(HT.out.gr HG.out).block (by intro e;rw [e]at hlt;simp at hlt)
       have hgp:=hshp.lt
       have hgt:=hsht.lt
       cases e1
       cases e2
       obtain ⟨p,hp⟩:∃p,m.pts[q]=p:=⟨_,rfl⟩
       obtain ⟨t,ht⟩:∃t,m.tris[k]=t:=⟨_,rfl⟩
       obtain ⟨a0,a1,a2,a3,a4,a5,a6,a7,a8,a9⟩:=hRp.fPt hqp hp
       have HTT:=Lib.hid hRt
       have HWW:=Lib.hid (HW.out k t q p (by rw [←ht];exact List.getElem?_eq_getElem hlt) (by rw [←hp];exact List.getElem?_eq_getElem hqp))
       clear hshp hsht hRp hRt
       obtain ⟨b0,b1,b2,_⟩:=HVB.out.three
       obtain ⟨v0,v1,v2⟩:=HTT.out.fTri hlt ht
       have HCN:=Lib.hid (contains3 t q gt (k*3) 3)
       have HVX:=Lib.hid (VB.new wr (pC p) 94)
       have hcb:cb<wr.heap.size+1:=by omega
       have hwb:w.heap.size<wr.heap.size+1:=by omega
       have hgtb:gt<wr.heap.size+1:=by omega
       have hngt:¬gt=wr.heap.size:=by omega
       cases hh:hasT t q
       ·rw [hh]at HCN
        replace HWW:=Lib.hid (HWW.out hh)
        have u0:=HVC.out.c 0 _ rfl
        have u1:=HVC.out.c 1 _ rfl
        have u2:=HVC.out.c 2 _ rfl
        have u3:=HVC.out.c 3 _ rfl
        have u4:=HVC.out.c 4 _ rfl
        have u5:=HVC.out.c 5 _ rfl
        have u6:=HVC.out.c 6 _ rfl
        have u7:=HVC.out.c 7 _ rfl
        have u8:=HVC.out.c 8 _ rfl
        have u9:=HVC.out.c 9 _ rfl
        have u10:=HVC.out.c 10 _ rfl
        have u11:=HVC.out.c 11 _ rfl
        have u12:=HVC.out.c 12 _ rfl
        have u13:=HVC.out.c 13 _ rfl
        have u14:=HVC.out.c 14 _ rfl
        have u15:=HVC.out.c 15 _ rfl
        have u16:=HVC.out.c 16 _ rfl
        have u17:=HVC.out.c 17 _ rfl
        have u18:=HVC.out.c 18 _ rfl
        have u19:=HVC.out.c 19 _ rfl
        have u20:=HVC.out.c 20 _ rfl
        have u21:=HVC.out.c 21 _ rfl
        have u22:=HVC.out.c 22 _ rfl
        have u23:=HVC.out.c 23 _ rfl
        have u24:=HVC.out.c 24 _ rfl
        have u25:=HVC.out.c 25 _ rfl
        have u26:=HVC.out.c 26 _ rfl
        have u27:=HVC.out.c 27 _ rfl
        have u28:=HVC.out.c 28 _ rfl
        have u29:=HVC.out.c 29 _ rfl
        go_wp2_with fail
        (refine(HCN.out _ (by simp [go_sem, *]) (by simp [go_sem, *]) (by simp [go_sem, *])).mono ?_;rintro e w8 ⟨rfl,hg8⟩;(try (with_reducible replace hg8:=Gr.of_drew hg8));have hsz8:=hg8.size;(try simp at hsz8);have hy8_0:w.heap.size<w8.heap.size:=(by omega);have hy8_1:cb<w8.heap.size:=(by omega);have hy8_2:wr.heap.size<w8.heap.size:=(by omega);obtain ⟨hc8,hf8⟩:=hg8.cells;have HG8:=Lib.hid hg8;clear hg8)
        go_wp2_with fail
        (refine(HWW.out _).mono ?_;rintro e w9 ⟨rfl,hg9⟩;(try (with_reducible replace hg9:=Gr.of_drew hg9));have hsz9:=hg9.size;(try simp at hsz9);have hy9_0:w.heap.size<w9.heap.size:=(by omega);have hy9_1:cb<w9.heap.size:=(by omega);obtain ⟨hc9,hf9⟩:=hg9.cells;have HG9:=Lib.hid hg9;clear hg9)
        go_wp2
        go_roundw
        case rel=>exact⟨q+1,by omega,by go_num,Lib.hid (by(with_reducible (repeat' (first|(refine VB.new' ?_;exact(by first|omega|(simp;done)|(simp;omega)))|apply VB.put2|apply VB.put3|apply VB.put5|refine VB.drew ?_|refine VB.far ?_ ?_ _|refine VB.alloc ?_ _|exact HVB.out|refine VB.gr ?_ HG9.out ?_|refine VB.gr ?_ HG8.out ?_|omega|(simp;done)|(simp;omega))))),Lib.hid (by(with_reducible (repeat' (first|(refine VB.new' ?_;exact(by first|omega|(simp;done)|(simp;omega)))|apply VB.put2|apply VB.put3|apply VB.put5|refine VB.drew ?_|refine VB.far ?_ ?_ _|refine VB.alloc ?_ _|exact HVC.out|refine VB.gr ?_ HG9.out ?_|refine VB.gr ?_ HG8.out ?_|omega|(simp;done)|(simp;omega))))),Lib.hid (by(with_reducible (repeat' (first|exact Gr.refl _ _|refine Gr.drew ?_|refine Gr.setCell ?_ ?_ _|refine Gr.alloc ?_ ?_ _|refine Gr.trans ?_ (Gr.mono HG9.out ?_)|refine Gr.trans ?_ (Gr.mono HG8.out ?_)|refine Gr.trans ?_ (Gr.mono HG.out ?_)|omega|(simp;done)|(simp;omega)))))⟩
        case measure=>simp [intOf];omega
       ·rw [hh]at HCN
        clear HWW
        go_wp2_with fail
        (refine(HCN.out _ (by simp [go_sem, *]) (by simp [go_sem, *]) (by simp [go_sem, *])).mono ?_;rintro e w8 ⟨rfl,hg8⟩;(try (with_reducible replace hg8:=Gr.of_drew hg8));have hsz8:=hg8.size;(try simp at hsz8);have hy8_0:w.heap.size<w8.heap.size:=(by omega);have hy8_1:cb<w8.heap.size:=(by omega);obtain ⟨hc8,hf8⟩:=hg8.cells;have HG8:=Lib.hid hg8;clear hg8)
        go_wp2
        go_roundw
        case rel=>exact⟨q+1,by omega,by go_num,Lib.hid (by(with_reducible (repeat' (first|(refine VB.new' ?_;exact(by first|omega|(simp;done)|(simp;omega)))|apply VB.put2|apply VB.put3|apply VB.put5|refine VB.drew ?_|refine VB.far ?_ ?_ _|refine VB.alloc ?_ _|exact HVB.out|refine VB.gr ?_ HG8.out ?_|omega|(simp;done)|(simp;omega))))),Lib.hid (by(with_reducible (repeat' (first|(refine VB.new' ?_;exact(by first|omega|(simp;done)|(simp;omega)))|apply VB.put2|apply VB.put3|apply VB.put5|refine VB.drew ?_|refine VB.far ?_ ?_ _|refine VB.alloc ?_ _|exact HVC.out|refine VB.gr ?_ HG8.out ?_|omega|(simp;done)|(simp;omega))))),Lib.hid (by(with_reducible (repeat' (first|exact Gr.refl _ _|refine Gr.drew ?_|refine Gr.setCell ?_ ?_ _|refine Gr.alloc ?_ ?_ _|refine Gr.trans ?_ (Gr.mono HG8.out ?_)|refine Gr.trans ?_ (Gr.mono HG.out ?_)|omega|(simp;done)|(simp;omega)))))⟩
        case measure=>simp [intOf];omega
      ·obtain rfl:q=m.pts.length:=by omega
       go_wp2
       go_roundw
       case rel=>exact⟨k+1,by omega,by go_num,HVB,HG⟩
       case measure=>simp [intOf];omega
  ·obtain rfl:i=m.tris.length:=by omega
   go_wp2
   go_ret
   exact⟨rfl,HG.out⟩
end Go.Proofs.YtmelogdhllhjiaaGreat
namespace Go.Proofs.YtmelogdhllhjiaaGreat
open Go.RowKit Gus
def sqS:List Pt:= [⟨0,0⟩,⟨0,1⟩,⟨1,0⟩,⟨1,1⟩]
theorem sqS_flat:sqS.flatMap pC= [.int .u64 0,.string ⟨#[]⟩,.bool false,.int .u64 0,.string ⟨#[]⟩,.int .u64 0,.string ⟨#[]⟩,.bool false,.int .u64 0,.string ⟨#[]⟩,.int .u64 0,.string ⟨#[]⟩,.bool false,.int .u64 0,.string ⟨#[]⟩,.int .u64 1,.string ⟨#[]⟩,.bool false,.int .u64 0,.string ⟨#[]⟩,.int .u64 1,.string ⟨#[]⟩,.bool false,.int .u64 0,.string ⟨#[]⟩,.int .u64 0,.string ⟨#[]⟩,.bool false,.int .u64 0,.string ⟨#[]⟩,.int .u64 1,.string ⟨#[]⟩,.bool false,.int .u64 0,.string ⟨#[]⟩,.int .u64 1,.string ⟨#[]⟩,.bool false,.int .u64 0,.string ⟨#[]⟩]:=by kernel_rfl
set_option maxRecDepth 20000 in
set_option maxHeartbeats 8000000 in
theorem compact_sq (g cap:Nat) (w:World) (hlt:g<w.heap.size) (hR:RC pC 10 w g sqS):Calls Tryz.prog 166 #[.slice (some ⟨g,0,none⟩) 4 cap] w (Ret w (.slice (some ⟨g,0,none⟩) 4 cap)):=by
 have HF:=Lib.hid (show ∀W:World,Gr w.heap.size w W→∀i u,[.int .u64 0,.string ⟨#[]⟩,.bool false,.int .u64 0,.string ⟨#[]⟩,.int .u64 0,.string ⟨#[]⟩,.bool false,.int .u64 0,.string ⟨#[]⟩,.int .u64 0,.string ⟨#[]⟩,.bool false,.int .u64 0,.string ⟨#[]⟩,.int .u64 1,.string ⟨#[]⟩,.bool false,.int .u64 0,.string ⟨#[]⟩,.int .u64 1,.string ⟨#[]⟩,.bool false,.int .u64 0,.string ⟨#[]⟩,.int .u64 0,.string ⟨#[]⟩,.bool false,.int .u64 0,.string ⟨#[]⟩,.int .u64 1,.string ⟨#[]⟩,.bool false,.int .u64 0,.string ⟨#[]⟩,.int .u64 1,.string ⟨#[]⟩,.bool false,.int .u64 0,.string ⟨#[]⟩][i]? =some u→W.cell? ⟨g,i,none⟩=some u from fun W hW i u hu=>(hW.cell (p:=⟨g,i,none⟩) hlt).trans (hR.flat pC_len i u (by rw [sqS_flat];exact hu)))
 clear hR
 have hw1:IntKind.i64.wrap 0=0:=by decide
 have hw2:IntKind.i64.wrap 1=1:=by decide
 have hw3:IntKind.i64.wrap 2=2:=by decide
 have hw4:IntKind.i64.wrap 3=3:=by decide
 have hw5:IntKind.i64.wrap 4=4:=by decide
 go_enter Tryz.func166,Tryz.ntmps166
 go_wp2
 go_loopw [3] (fun s wr=> ∃k:Nat,1≤k∧k≤4∧s= .int .i64 k∧Hid (Gr w.heap.size w wr)) (fun s _=>4 - (intOf s).toNat)
 case atStart=>exact⟨1,by omega,by omega,rfl,Lib.hid (by(with_reducible (repeat' (first|exact Gr.refl _ _|refine Gr.drew ?_|refine Gr.setCell ?_ ?_ _|refine Gr.alloc ?_ ?_ _|omega|(simp;done)|(simp;omega)))))⟩
 case round=>
  obtain ⟨k,hk1,hk,rfl,HG⟩:=hrel
  rcases(show k=1∨k=2∨k=3∨k=4 by omega)with rfl|rfl|rfl|rfl
  ·simp only [show((1:Nat):Int)=1 from rfl]
   have u0:=HF.out wr HG.out 0 _ rfl
   have u1:=HF.out wr HG.out 1 _ rfl
   have u2:=HF.out wr HG.out 2 _ rfl
   have u3:=HF.out wr HG.out 3 _ rfl
   have u4:=HF.out wr HG.out 4 _ rfl
   have u5:=HF.out wr HG.out 5 _ rfl
   have u6:=HF.out wr HG.out 6 _ rfl
   have u7:=HF.out wr HG.out 7 _ rfl
   have u8:=HF.out wr HG.out 8 _ rfl
   have u9:=HF.out wr HG.out 9 _ rfl
   have u10:=HF.out wr HG.out 10 _ rfl
   have u11:=HF.out wr HG.out 11 _ rfl
   have u12:=HF.out wr HG.out 12 _ rfl
   have u13:=HF.out wr HG.out 13 _ rfl
   have u14:=HF.out wr HG.out 14 _ rfl
   have u15:=HF.out wr HG.out 15 _ rfl
   have u16:=HF.out wr HG.out 16 _ rfl
   have u17:=HF.out wr HG.out 17 _ rfl
   have u18:=HF.out wr HG.out 18 _ rfl
   have u19:=HF.out wr HG.out 19 _ rfl
   go_wp2_with fail
   refine wp_region_held_drew (S:=(fun w'=>w'.cell? ⟨g,0,none⟩=some (.int .u64 0)∧w'.cell? ⟨g,1,none⟩=some (.string ⟨#[]⟩)∧w'.cell? ⟨g,2,none⟩=some (.bool false)∧w'.cell? ⟨g,3,none⟩=some (.int .u64 0)∧w'.cell? ⟨g,4,none⟩=some (.string ⟨#[]⟩)∧w'.cell? ⟨g,5,none⟩=some (.int .u64 0)∧w'.cell? ⟨g,6,none⟩=some (.string ⟨#[]⟩)∧w'.cell? ⟨g,7,none⟩=some (.bool false)∧w'.cell? ⟨g,8,none⟩=some (.int .u64 0)∧w'.cell? ⟨g,9,none⟩=some (.string ⟨#[]⟩)∧w'.cell? ⟨g,10,none⟩=some (.int .u64 0)∧w'.cell? ⟨g,11,none⟩=some (.string ⟨#[]⟩)∧w'.cell? ⟨g,12,none⟩=some (.bool false)∧w'.cell? ⟨g,13,none⟩=some (.int .u64 0)∧w'.cell? ⟨g,14,none⟩=some (.string ⟨#[]⟩)∧w'.cell? ⟨g,15,none⟩=some (.int .u64 1)∧w'.cell? ⟨g,16,none⟩=some (.string ⟨#[]⟩)∧w'.cell? ⟨g,17,none⟩=some (.bool false)∧w'.cell? ⟨g,18,none⟩=some (.int .u64 0)∧w'.cell? ⟨g,19,none⟩=some (.string ⟨#[]⟩))) (by kernel_rfl) ?_ (fun hHeld=>?_)
   ·simp [go_sem, *]
   refine tk 0 (some 16) (.slice (some ⟨g,0,none⟩) 4 cap) ?_
   try simp only [pS]
   refine tk 1 (some 17) (.int .i64 1) ?_
   try simp only [pS]
   refine tk 2 (some 18) (.pointer (some ⟨g,10,none⟩)) ?_
   try simp only [pS]
   refine tk 3 (some 19) (.agg #[.int .u64 0,.string ⟨#[]⟩,.bool false,.int .u64 0,.string ⟨#[]⟩,.int .u64 1,.string ⟨#[]⟩,.bool false,.int .u64 0,.string ⟨#[]⟩]) ?_
   try simp only [pS]
   refine tk 4 (some 20) (.slice (some ⟨g,0,none⟩) 4 cap) ?_
   try simp only [pS]
   refine tk 5 (some 21) (.int .i64 1) ?_
   try simp only [pS]
   refine tk 6 (some 22) (.int .i64 0) ?_
   try simp only [pS]
   refine tk 7 (some 23) (.pointer (some ⟨g,0,none⟩)) ?_
   try simp only [pS]
   refine tk 8 (some 24) (.agg #[.int .u64 0,.string ⟨#[]⟩,.bool false,.int .u64 0,.string ⟨#[]⟩,.int .u64 0,.string ⟨#[]⟩,.bool false,.int .u64 0,.string ⟨#[]⟩]) ?_
   try simp only [pS]
   refine tk 9 (some 25) (.bool false) ?_
   try simp only [pS]
   refine wpAnyH_done (by kernel_rfl) ?_ _
   go_wp2
   go_roundw
   case rel=>exact⟨2,by omega,by omega,by go_num,Lib.hid (by(with_reducible (repeat' (first|exact Gr.refl _ _|refine Gr.drew ?_|refine Gr.setCell ?_ ?_ _|refine Gr.alloc ?_ ?_ _|refine Gr.trans ?_ (Gr.mono HG.out ?_)|omega|(simp;done)|(simp;omega)))))⟩
   case measure=>simp [intOf]
  ·simp only [show((2:Nat):Int)=2 from rfl]
   have u10:=HF.out wr HG.out 10 _ rfl
   have u11:=HF.out wr HG.out 11 _ rfl
   have u12:=HF.out wr HG.out 12 _ rfl
   have u13:=HF.out wr HG.out 13 _ rfl
   have u14:=HF.out wr HG.out 14 _ rfl
   have u15:=HF.out wr HG.out 15 _ rfl
   have u16:=HF.out wr HG.out 16 _ rfl
   have u17:=HF.out wr HG.out 17 _ rfl
   have u18:=HF.out wr HG.out 18 _ rfl
   have u19:=HF.out wr HG.out 19 _ rfl
   have u20:=HF.out wr HG.out 20 _ rfl
   have u21:=HF.out wr HG.out 21 _ rfl
   have u22:=HF.out wr HG.out 22 _ rfl
   have u23:=HF.out wr HG.out 23 _ rfl
   have u24:=HF.out wr HG.out 24 _ rfl
   have u25:=HF.out wr HG.out 25 _ rfl
   have u26:=HF.out wr HG.out 26 _ rfl
   have u27:=HF.out wr HG.out 27 _ rfl
   have u28:=HF.out wr HG.out 28 _ rfl
   have u29:=HF.out wr HG.out 29 _ rfl
   go_wp2_with fail
   refine wp_region_held_drew (S:=(fun w'=>w'.cell? ⟨g,10,none⟩=some (.int .u64 0)∧w'.cell? ⟨g,11,none⟩=some (.string ⟨#[]⟩)∧w'.cell? ⟨g,12,none⟩=some (.bool false)∧w'.cell? ⟨g,13,none⟩=some (.int .u64 0)∧w'.cell? ⟨g,14,none⟩=some (.string ⟨#[]⟩)∧w'.cell? ⟨g,15,none⟩=some (.int .u64 1)∧w'.cell? ⟨g,16,none⟩=some (.string ⟨#[]⟩)∧w'.cell? ⟨g,17,none⟩=some (.bool false)∧w'.cell? ⟨g,18,none⟩=some (.int .u64 0)∧w'.cell? ⟨g,19,none⟩=some (.string ⟨#[]⟩)∧w'.cell? ⟨g,20,none⟩=some (.int .u64 1)∧w'.cell? ⟨g,21,none⟩=some (.string ⟨#[]⟩)∧w'.cell? ⟨g,22,none⟩=some (.bool false)∧w'.cell? ⟨g,23,none⟩=some (.int .u64 0)∧w'.cell? ⟨g,24,none⟩=some (.string ⟨#[]⟩)∧w'.cell? ⟨g,25,none⟩=some (.int .u64 0)∧w'.cell? ⟨g,26,none⟩=some (.string ⟨#[]⟩)∧w'.cell? ⟨g,27,none⟩=some (.bool false)∧w'.cell? ⟨g,28,none⟩=some (.int .u64 0)∧w'.cell? ⟨g,29,none⟩=some (.string ⟨#[]⟩))) (by kernel_rfl) ?_ (fun hHeld=>?_)
   ·simp [go_sem, *]
   refine tk 0 (some 16) (.slice (some ⟨g,0,none⟩) 4 cap) ?_
   try simp only [pS]
   refine tk 1 (some 17) (.int .i64 2) ?_
   try simp only [pS]
   refine tk 2 (some 18) (.pointer (some ⟨g,20,none⟩)) ?_
   try simp only [pS]
   refine tk 3 (some 19) (.agg #[.int .u64 1,.string ⟨#[]⟩,.bool false,.int .u64 0,.string ⟨#[]⟩,.int .u64 0,.string ⟨#[]⟩,.bool false,.int .u64 0,.string ⟨#[]⟩]) ?_
   try simp only [pS]
   refine tk 4 (some 20) (.slice (some ⟨g,0,none⟩) 4 cap) ?_
   try simp only [pS]
   refine tk 5 (some 21) (.int .i64 2) ?_
   try simp only [pS]
   refine tk 6 (some 22) (.int .i64 1) ?_
   try simp only [pS]
   refine tk 7 (some 23) (.pointer (some ⟨g,10,none⟩)) ?_
   try simp only [pS]
   refine tk 8 (some 24) (.agg #[.int .u64 0,.string ⟨#[]⟩,.bool false,.int .u64 0,.string ⟨#[]⟩,.int .u64 1,.string ⟨#[]⟩,.bool false,.int .u64 0,.string ⟨#[]⟩]) ?_
   try simp only [pS]
   refine tk 9 (some 25) (.bool false) ?_
   try simp only [pS]
   refine wpAnyH_done (by kernel_rfl) ?_ _
   go_wp2
   go_roundw
   case rel=>exact⟨3,by omega,by omega,by go_num,Lib.hid (by(with_reducible (repeat' (first|exact Gr.refl _ _|refine Gr.drew ?_|refine Gr.setCell ?_ ?_ _|refine Gr.alloc ?_ ?_ _|refine Gr.trans ?_ (Gr.mono HG.out ?_)|omega|(simp;done)|(simp;omega)))))⟩
   case measure=>simp [intOf]
  ·simp only [show((3:Nat):Int)=3 from rfl]
   have u20:=HF.out wr HG.out 20 _ rfl
   have u21:=HF.out wr HG.out 21 _ rfl
   have u22:=HF.out wr HG.out 22 _ rfl
   have u23:=HF.out wr HG.out 23 _ rfl
   have u24:=HF.out wr HG.out 24 _ rfl
   have u25:=HF.out wr HG.out 25 _ rfl
   have u26:=HF.out wr HG.out 26 _ rfl
   have u27:=HF.out wr HG.out 27 _ rfl
   have u28:=HF.out wr HG.out 28 _ rfl
   have u29:=HF.out wr HG.out 29 _ rfl
   have u30:=HF.out wr HG.out 30 _ rfl
   have u31:=HF.out wr HG.out 31 _ rfl
   have u32:=HF.out wr HG.out 32 _ rfl
   have u33:=HF.out wr HG.out 33 _ rfl
   have u34:=HF.out wr HG.out 34 _ rfl
   have u35:=HF.out wr HG.out 35 _ rfl
   have u36:=HF.out wr HG.out 36 _ rfl
   have u37:=HF.out wr HG.out 37 _ rfl
   have u38:=HF.out wr HG.out 38 _ rfl
   have u39:=HF.out wr HG.out 39 _ rfl
   go_wp2_with fail
   refine wp_region_held_drew (S:=(fun w'=>w'.cell? ⟨g,20,none⟩=some (.int .u64 1)∧w'.cell? ⟨g,21,none⟩=some (.string ⟨#[]⟩)∧w'.cell? ⟨g,22,none⟩=some (.bool false)∧w'.cell? ⟨g,23,none⟩=some (.int .u64 0)∧w'.cell? ⟨g,24,none⟩=some (.string ⟨#[]⟩)∧w'.cell? ⟨g,25,none⟩=some (.int .u64 0)∧w'.cell? ⟨g,26,none⟩=some (.string ⟨#[]⟩)∧w'.cell? ⟨g,27,none⟩=some (.bool false)∧w'.cell? ⟨g,28,none⟩=some (.int .u64 0)∧w'.cell? ⟨g,29,none⟩=some (.string ⟨#[]⟩)∧w'.cell? ⟨g,30,none⟩=some (.int .u64 1)∧w'.cell? ⟨g,31,none⟩=some (.string ⟨#[]⟩)∧w'.cell? ⟨g,32,none⟩=some (.bool false)∧w'.cell? ⟨g,33,none⟩=some (.int .u64 0)∧w'.cell? ⟨g,34,none⟩=some (.string ⟨#[]⟩)∧w'.cell? ⟨g,35,none⟩=some (.int .u64 1)∧w'.cell? ⟨g,36,none⟩=some (.string ⟨#[]⟩)∧w'.cell? ⟨g,37,none⟩=some (.bool false)∧w'.cell? ⟨g,38,none⟩=some (.int .u64 0)∧w'.cell? ⟨g,39,none⟩=some (.string ⟨#[]⟩))) (by kernel_rfl) ?_ (fun hHeld=>?_)
   ·simp [go_sem, *]
   refine tk 0 (some 16) (.slice (some ⟨g,0,none⟩) 4 cap) ?_
   try simp only [pS]
   refine tk 1 (some 17) (.int .i64 3) ?_
   try simp only [pS]
   refine tk 2 (some 18) (.pointer (some ⟨g,30,none⟩)) ?_
   try simp only [pS]
   refine tk 3 (some 19) (.agg #[.int .u64 1,.string ⟨#[]⟩,.bool false,.int .u64 0,.string ⟨#[]⟩,.int .u64 1,.string ⟨#[]⟩,.bool false,.int .u64 0,.string ⟨#[]⟩]) ?_
   try simp only [pS]
   refine tk 4 (some 20) (.slice (some ⟨g,0,none⟩) 4 cap) ?_
   try simp only [pS]
   refine tk 5 (some 21) (.int .i64 3) ?_
   try simp only [pS]
   refine tk 6 (some 22) (.int .i64 2) ?_
   try simp only [pS]
   refine tk 7 (some 23) (.pointer (some ⟨g,20,none⟩)) ?_
   try simp only [pS]
   refine tk 8 (some 24) (.agg #[.int .u64 1,.string ⟨#[]⟩,.bool false,.int .u64 0,.string ⟨#[]⟩,.int .u64 0,.string ⟨#[]⟩,.bool false,.int .u64 0,.string ⟨#[]⟩]) ?_
   try simp only [pS]
   refine tk 9 (some 25) (.bool false) ?_
   try simp only [pS]
   refine wpAnyH_done (by kernel_rfl) ?_ _
   go_wp2
   go_roundw
   case rel=>exact⟨4,by omega,by omega,by go_num,Lib.hid (by(with_reducible (repeat' (first|exact Gr.refl _ _|refine Gr.drew ?_|refine Gr.setCell ?_ ?_ _|refine Gr.alloc ?_ ?_ _|refine Gr.trans ?_ (Gr.mono HG.out ?_)|omega|(simp;done)|(simp;omega)))))⟩
   case measure=>simp [intOf]
  ·simp only [show((4:Nat):Int)=4 from rfl]
   go_wp2
   go_ret
   exact⟨rfl,HG.out⟩
end Go.Proofs.YtmelogdhllhjiaaGreat
namespace Go.Proofs.YtmelogdhllhjiaaGreat
open Go.RowKit Gus
abbrev PtB:= {p:Pt // hp p≤10}
instance:Inhabited PtB:=⟨⟨⟨0,0⟩,by decide+kernel⟩⟩
abbrev pbC (p:PtB):List Value:=pC p.1
abbrev pbV (p:PtB):Value:=pV p.1
def ordB (a b:PtB):Int:=ordP a.1 b.1
theorem pbC_len (p:PtB):(pbC p).length=10:=rfl
theorem pbC_one (x:PtB):∀v∈pbC x,v.oneCell'=true:=pC_one' x.1
theorem cmpQ_neg (a b:Rat):cmpQ a b<0↔a<b:=by
 unfold cmpQ
 split
 ·simp [*]
 ·split<;>simp [*]
theorem cmpQ_zero (a b:Rat):cmpQ a b=0↔a=b:=by
 unfold cmpQ
 split
 ·rename_i h
  refine⟨fun h2=>by simp at h2,fun h2=>?_⟩
  subst h2
  exact absurd h (Rat.lt_irrefl)
 ·split<;>simp [*]
theorem lessP_iff (a b:Pt):lessP a b=true↔a.x<b.x∨a.x=b.x∧a.y<b.y:=by
 unfold lessP
 split
 ·rename_i h
  rw [cmpQ_zero]at h
  rw [decide_eq_true_eq,cmpQ_neg,h]
  constructor
  ·exact fun h2=> .inr ⟨rfl,h2⟩
  ·rintro (h2|h2)
   ·exact absurd h2 Rat.lt_irrefl
   ·exact h2.2
 ·rename_i h
  rw [cmpQ_zero]at h
  rw [decide_eq_true_eq,cmpQ_neg]
  constructor
  ·exact .inl
  ·rintro (h2|h2)
   ·exact h2
   ·exact absurd h2.1 h
theorem ordB_lt (a b:PtB):ordB a b<0↔a.1.x<b.1.x∨a.1.x=b.1.x∧a.1.y<b.1.y:=by
 unfold ordB ordP
 rw [←lessP_iff]
 split
 ·simp [*]
 ·split<;>simp [*]
theorem swo_B:Sort.SWO (ltOf ordB):=by
 have e:∀a b,ltOf ordB a b=decide (a.1.x<b.1.x∨a.1.x=b.1.x∧a.1.y<b.1.y):=fun a b=>decide_eq_decide.2 (ordB_lt a b)
 refine⟨fun x=>?_,fun x y z=>?_,fun x y z=>?_⟩
 ·rw [e,decide_eq_false_iff_not];rintro (h|⟨_,h⟩)<;>exact Rat.lt_irrefl h
 ·rw [e,e,e];simp only [decide_eq_true_eq];grind
 ·rw [e,e,e];simp only [decide_eq_false_iff_not];grind
theorem orders_B:Orders pbV 164 #[] ordB:=
 ⟨enters_of Tryz.func164 (by kernel_rfl) rfl,fun W x y=>by rw [Array.append_empty];exact ms_once1 x.1 y.1 W (by have:=x.2;omega) (by have:=y.2;omega)⟩
theorem sort_PtB (l:List PtB) (B g cap:Nat) (w:World) (hS:SL pbC 10 94 w B (.slice (some ⟨g,0,none⟩) l.length cap) l) (hl:l.length<4611686018427387904):
  Calls Tryz.prog 163 #[.slice (some ⟨g,0,none⟩) l.length cap,.func (.func 164) #[] #[]] w (fun e w'=>e= .returned (.tuple #[])∧∃l':List PtB,l'.Perm l∧(l'.Pairwise fun a b=> ¬ordB b a<0)∧SL pbC 10 94 w' B (.slice (some ⟨g,0,none⟩) l.length cap) l'∧Gr B w w'):=by
 obtain ⟨g',cap',e1,hBg,hcap,hcm,hsh,hR⟩:∃g' cap',Value.slice (some ⟨g,0,none⟩) l.length cap= .slice (some ⟨g',0,none⟩) l.length cap'∧B≤g'∧l.length≤cap'∧cap'≤maxLen∧Sh w g' 94 (cap'*10)∧RC pbC 10 w g' l:=by
  rcases hS with⟨h,_⟩|h
  ·cases h
  ·exact h
 cases e1
 have hglt:=hsh.lt
 have hH:Sort.HoldsK pbC 10 w g 0 l.toArray:=hR.holds pbC_len hsh.frozen
 have hP:Calls Tryz.prog 163 #[.slice (some ⟨g,0,none⟩) l.length cap,.func (.func 164) #[] #[]] w (fun e w'=>e= .returned (.tuple #[])∧∃d' n os,Sort.PermIn 0 l.length l.toArray d'∧Sort.SortedIn (ltOf ordB) 0 l.length d'∧w'=sortWorldK pbC 10 w g 0 n d' os):=
  AnyQ.slices_SortFunc Tryz.sortPoint 10 Tryz.isAgg94 Tryz.sizeOf94 pbC pbC_len pbC_one ordB swo_B _ #[] g 0 cap l.toArray w orders_B.1 (orders_B.lays g 0 _ w) hH hglt hl
 refine hP.mono ?_
 rintro e w' ⟨he,d,n,os,hd,hD,rfl⟩
 have hsz:d.size=l.length:=hd.1
 refine⟨he,d.toList,?_,?_,SL.sorted hS pbC_len n d hsz os,Gr.sorted hBg hglt n d os⟩
 ·have:=hd.2.2
  have e1:d.extract 0 l.length=d:=by rw [←hsz];simp
  rw [e1]at this
  simpa using this
 ·rw [List.pairwise_iff_getElem]
  intro i j hi hj hij
  have:=hD i j (Nat.zero_le _) hij (by simp at hj;omega)
  have hi':i<d.size:=by simpa using hi
  have hj':j<d.size:=by simpa using hj
  rw [getElem!_pos d j hj',getElem!_pos d i hi']at this
  simpa [ltOf] using this
theorem RC.mapv {w:World} {g:Nat} (l:List PtB):RC pbC 10 w g l↔RC pC 10 w g (l.map (·.1)):=by
 constructor
 ·intro h j hj i u hu
  exact h j (by simpa using hj) i u (by simpa using hu)
 ·intro h j hj i u hu
  exact h j (by simpa using hj) i u (by simpa using hu)
theorem SL.mapv {w:World} {B:Nat} {t:TypeId} {v:Value} (l:List PtB):SL pbC 10 t w B v l↔SL pC 10 t w B v (l.map (·.1)):=by
 unfold SL
 simp only [List.map_eq_nil_iff,List.length_map,RC.mapv]
def sqB:List PtB:= [⟨⟨0,0⟩,by decide+kernel⟩,⟨⟨1,0⟩,by decide+kernel⟩,⟨⟨1,1⟩,by decide+kernel⟩,⟨⟨0,1⟩,by decide+kernel⟩]
def sqZ:List PtB:= [⟨⟨0,0⟩,by decide+kernel⟩,⟨⟨0,1⟩,by decide+kernel⟩,⟨⟨1,0⟩,by decide+kernel⟩,⟨⟨1,1⟩,by decide+kernel⟩]
theorem sqZ_perm:sqB.Perm sqZ:=List.Perm.cons _ ((List.Perm.cons _ (List.Perm.swap _ _ _)).trans (List.Perm.swap _ _ _))
theorem ordB_total (a b:PtB) (h1:¬ordB b a<0) (h2:¬ordB a b<0):a=b:=by
 rw [ordB_lt]at h1 h2
 apply Subtype.ext
 have hx:a.1.x=b.1.x:=by grind
 have hy:a.1.y=b.1.y:=by grind
 obtain ⟨⟨ax,ay⟩,_⟩:=a
 obtain ⟨⟨bx,by'⟩,_⟩:=b
 simp only at hx hy
 simp [hx,hy]
theorem sqZ_sorted:sqZ.Pairwise fun a b=> ¬ordB b a<0:=by
 simp only [sqZ,ordB_lt]
 decide+kernel
theorem sort_sq (g cap B:Nat) (w:World) (hS:SL pC 10 94 w B (.slice (some ⟨g,0,none⟩) 4 cap) sqP):
  Calls Tryz.prog 163 #[.slice (some ⟨g,0,none⟩) 4 cap,.func (.func 164) #[] #[]] w (fun e w'=>e= .returned (.tuple #[])∧SL pC 10 94 w' B (.slice (some ⟨g,0,none⟩) 4 cap) sqS∧Gr B w w'):=by
 refine(sort_PtB sqB B g cap w ((SL.mapv sqB).2 hS) (by simp [sqB])).mono ?_
 rintro e w' ⟨he,l',hp,hs,hS',hg⟩
 have e1:l'=sqZ:=List.Perm.eq_of_pairwise (fun a b _ _=>ordB_total a b) hs sqZ_sorted (hp.trans sqZ_perm)
 subst e1
 exact⟨he,(SL.mapv sqZ).1 hS',hg⟩
end Go.Proofs.YtmelogdhllhjiaaGreat
