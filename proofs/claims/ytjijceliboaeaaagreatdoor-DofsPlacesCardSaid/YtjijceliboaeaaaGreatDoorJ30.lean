/-
  Part 30 of the proof: Cells.
-/
import Derived.Test.YtjijceliboaeaaaGreatDoorJ19
import Derived.Test.YtjijceliboaeaaaGreatDoorJ26
set_option linter.unusedSimpArgs false
set_option linter.unusedVariables false
namespace Go.Proofs.YtjijceliboaeaaaGreatDoor
open Go.RowKit Gus Go.Maps
abbrev mC (nx ny:Nat) (cv:Value) (m0 m1 m2 m3:Int) (den fi:Nat):List Value:= [.int .u8 (nx:Int),.int .u8 (ny:Int),cv,.int .i8 m0,.int .i8 m1,.int .i8 m2,.int .i8 m3,.int .u8 (den:Int),.int .u8 (fi:Int)]
abbrev t6C (t:T2):List Value:= [.int .i64 (t.1.1:Int),.int .i64 (t.1.2:Int),.int .i64 (t.2.1.1:Int),.int .i64 (t.2.1.2:Int),.int .i64 (t.2.2.1:Int),.int .i64 (t.2.2.2:Int)]
theorem t6C_len (t:T2):(t6C t).length=6:=rfl
theorem t6C_one (t:T2):∀v∈t6C t,v.oneCell'=true:=by simp [Value.oneCell']
theorem info_bT6:(Tryz.prog.info? 97).map (fun i=>(i.zero,i.size,i.bytes))=some (some (.agg #[.int .i64 0,.int .i64 0,.int .i64 0,.int .i64 0,.int .i64 0,.int .i64 0]),6,48):=by kernel_rfl
def wayOf (bs:List Nat) (i:Nat):Nat:=if bs.length=0 then 0 else bs.getD (i % bs.length) 0 % 8
theorem way_lt (bs:List Nat) (i:Nat):wayOf bs i<8:=by unfold wayOf;split<;>omega
def cellsTo (a:Nat) (way:Nat→Nat) (i:Nat):List T2:=(List.range i).flatMap fun i=>cellK (kindW (way i) i) (2*(i % a)) (2*(i / a))
theorem cellsTo_succ (a:Nat) (way:Nat→Nat) (i:Nat):cellsTo a way (i+1)=cellsTo a way i++cellK (kindW (way i) i) (2*(i % a)) (2*(i / a)):=by
 unfold cellsTo
 rw [List.range_succ,List.flatMap_append]
 simp
theorem cellK_le (k x y:Nat):(cellK k x y).length≤4:=by unfold cellK;split<;>simp
theorem cellsTo_len (a:Nat) (way:Nat→Nat) (i:Nat):(cellsTo a way i).length≤4*i:=by
 induction i with
 | zero=>simp [cellsTo]
 | succ i ih=>rw [cellsTo_succ,List.length_append];have:=cellK_le (kindW (way i) i) (2*(i % a)) (2*(i / a));omega
theorem RC.more {α:Type} {enc:α→List Value} {k g:Nat} {t:TypeId} {w:World} {l:List α} {cs:List Value} (hk:∀x,(enc x).length=k) (hg:g=w.heap.size) (h:l.flatMap enc=cs):RC enc k (w.alloc (.cells cs.toArray t)) g l:=
 RC.of_flat hk fun i u hu=>(VB.new' (t:=t) hg).c i u (by rw [←h];exact hu)
def BS (w:World) (v:Value) (l:List Nat):Prop:=l.length≤maxLen∧((∃a cap,v= .slice a 0 cap∧l= [])∨∃g o cap,v= .slice (some ⟨g,o,none⟩) l.length cap∧g<w.heap.size∧∀j (hj:j<l.length),w.cell? ⟨g,o+j,none⟩=some (.int .u8 (l[j]:Int)))
theorem BS.at {w:World} {v:Value} {l:List Nat} (h:BS w v l):∃a cap,v= .slice a l.length cap:=by
 rcases h with⟨_,⟨a,c,h,rfl⟩|⟨g,o,c,h,_⟩⟩
 ·exact⟨a,c,h⟩
 ·exact⟨_,c,h⟩
theorem BS.len {w:World} {v:Value} {l:List Nat} (h:BS w v l):l.length≤maxLen:=h.1
theorem BS.gr {w w':World} {v:Value} {l:List Nat} (h:BS w v l) (hg:Gr w.heap.size w w'):BS w' v l:=by
 rcases h with⟨h0,h|⟨g,o,c,h1,h2,h3⟩⟩
 ·exact⟨h0,.inl h⟩
 ·exact⟨h0,.inr ⟨g,o,c,h1,Nat.lt_of_lt_of_le h2 hg.size,fun j hj=>(hg.cell (p:=⟨g,o+j,none⟩) h2).trans (h3 j hj)⟩⟩
theorem BS.block {w:World} {v:Value} {l:List Nat} (h:BS w v l) (hl:l≠ []):∃g o cap,v= .slice (some ⟨g,o,none⟩) l.length cap∧g<w.heap.size∧∀j (hj:j<l.length),w.cell? ⟨g,o+j,none⟩=some (.int .u8 (l[j]:Int)):=by
 rcases h with⟨_,⟨_,_,_,h⟩|h⟩
 ·exact absurd h hl
 ·exact h
set_option maxRecDepth 20000 in
set_option maxHeartbeats 8000000 in
theorem ms_cells (nx ny den fi:Nat) (m0 m1 m2 m3:Int) (cw:Value) (bs:List Nat) (w:World) (h1:nx<256) (h2:ny<256) (hS:BS w cw bs) (hb:∀b∈bs,b<256):
  Calls Tryz.prog 35 #[.agg #[.int .u8 (nx:Int),.int .u8 (ny:Int),cw,.int .i8 m0,.int .i8 m1,.int .i8 m2,.int .i8 m3,.int .u8 (den:Int),.int .u8 (fi:Int)]] w (fun e w'=> ∃v',e= .returned v'∧SL t6C 6 97 w' w.heap.size v' (cellsL (1+nx % 3) (1+ny % 3) (wayOf bs))∧Gr w.heap.size w w'):=by
 obtain ⟨cv,cc,rfl⟩:=hS.at
 have HS:=Lib.hid hS
 have HB:=Lib.hid hb
 have l1:=hS.len
 have hl1:(bs.length:Int)≤9223372036854775807:=by simp only [maxLen]at l1;omega
 clear hS hb l1
 obtain ⟨a,ha⟩:∃a,1+nx % 3=a:=⟨_,rfl⟩
 obtain ⟨b,hb⟩:∃b,1+ny % 3=b:=⟨_,rfl⟩
 rw [ha,hb]
 have ha1:1+(nx:Int) % 3=(a:Int):=by omega
 have hb1:1+(ny:Int) % 3=(b:Int):=by omega
 have ha3:a≤3:=by omega
 have hb3:b≤3:=by omega
 have ha0:0<a:=by omega
 clear ha hb
 obtain ⟨n,hn⟩:∃n,a*b=n:=⟨_,rfl⟩
 have hn1:(a:Int)*(b:Int)=(n:Int):=by rw [←hn];simp
 have hn9:n≤9:=by rw [←hn];exact Nat.mul_le_mul ha3 hb3
 have HN:=Lib.hid hn
 clear hn
 have hwn:IntKind.i64.wrap (n:Int)=(n:Int):=wrap64_id (by omega) (by omega)
 obtain ⟨i0,hi,hz0,hz1,hz2⟩:=info_parts info_bT6
 have HI:=Lib.hid (And.intro hi (And.intro hz0 (And.intro hz1 hz2)))
 clear hi hz0 hz1 hz2
 go_enter Tryz.func35,Tryz.ntmps35
 go_wp2
 clear ha1 hb1
 have HV0:=Lib.hid (VB.new w [.int .u8 (nx:Int),.int .u8 (ny:Int),.slice cv bs.length cc,.int .i8 m0,.int .i8 m1,.int .i8 m2,.int .i8 m3,.int .u8 (den:Int),.int .u8 (fi:Int)] 26)
 have HG0:=Lib.hid (show Gr w.heap.size w (w.alloc (.cells #[.int .u8 (nx:Int),.int .u8 (ny:Int),.slice cv bs.length cc,.int .i8 m0,.int .i8 m1,.int .i8 m2,.int .i8 m3,.int .u8 (den:Int),.int .u8 (fi:Int)] 26))from by(with_reducible (repeat' (first|exact Gr.refl _ _|refine Gr.drew ?_|refine Gr.setCell ?_ ?_ _|refine Gr.alloc ?_ ?_ _|omega|(simp;done)|(simp;omega)))))
 generalize w.alloc (.cells #[.int .u8 (nx:Int),.int .u8 (ny:Int),.slice cv bs.length cc,.int .i8 m0,.int .i8 m1,.int .i8 m2,.int .i8 m3,.int .u8 (den:Int),.int .u8 (fi:Int)] 26)=w0 at *
 go_loopw [5,6] (fun p s wr=> ∃i:Nat,i≤n∧s= .int .i64 i∧Hid (VB wr w.heap.size [.int .u8 (nx:Int),.int .u8 (ny:Int),.slice cv bs.length cc,.int .i8 m0,.int .i8 m1,.int .i8 m2,.int .i8 m3,.int .u8 (den:Int),.int .u8 (fi:Int)])∧Hid (SL t6C 6 97 wr (w.heap.size+1) p (cellsTo a (wayOf bs) i))∧Hid (Gr w.heap.size w wr)) (fun _ s _=>n - (intOf s).toNat)
 case atStart=>exact⟨0,Nat.zero_le _,rfl,HV0,Lib.hid SL.nil,HG0⟩
 case round=>
  clear HV0 HG0
  obtain ⟨i,hin,rfl,HV,HP,HG⟩:=hrel
  have hszr:=HG.out.size
  have hvl:=HV.out.lt
  obtain ⟨pa,pc,rfl⟩:=HP.out.at
  have hlen:=cellsTo_len a (wayOf bs) i
  by_cases hlt:i<n
  ·have q0:(i:Int)<(n:Int):=by omega
   have c2:=HV.out.c 2 _ rfl
   go_upto_if 35 with fail
   go_cut [7] (fun s wx=>s= .int .u8 (wayOf bs i:Int)∧Gr wr.heap.size wr wx∧wx.heap.size=wr.heap.size)
   case first=>
    by_cases hbs:bs.length=0
    ·have q2:decide (0<(bs.length:Int))=false:=decide_eq_false (by omega)
     have q3:¬0<bs.length:=by omega
     go_wp2_with fail
     go_meet
     exact⟨by simp [wayOf,hbs],by(with_reducible (repeat' (first|exact Gr.refl _ _|refine Gr.drew ?_|refine Gr.setCell ?_ ?_ _|refine Gr.alloc ?_ ?_ _|omega|(simp;done)|(simp;omega)))),by simp⟩
    ·have q1:decide (0<(bs.length:Int))=true:=decide_eq_true (by omega)
     have q3:0<bs.length:=by omega
     obtain ⟨r,hr⟩:∃r,i % bs.length=r:=⟨_,rfl⟩
     have hr1:r<bs.length:=by rw [←hr];exact Nat.mod_lt _ (by omega)
     have hr2:(i:Int) % (bs.length:Int)=(r:Int):=by rw [←hr];simp
     have hr3:(i:Int).tmod (bs.length:Int)=(r:Int):=by rw [Int.tmod_eq_emod_of_nonneg (by omega)];exact hr2
     obtain ⟨x,hx⟩:∃x,bs[r]=x:=⟨_,rfl⟩
     have hx1:=HB.out x (hx ▸ List.getElem_mem hr1)
     obtain ⟨g,ob,cap',e4,hglt,hR⟩:=(HS.out.gr HG.out).block (by intro e;rw [e]at q3;simp at q3)
     injection e4 with e4 _ e5
     subst e4 e5
     have u0:=hR r hr1
     rw [hx]at u0
     have hway:wayOf bs i=x % 8:=by unfold wayOf;rw [if_neg hbs,hr,List.getD_eq_getElem?_getD,List.getElem?_eq_getElem hr1,hx];rfl
     clear hR hr
     obtain ⟨x8,hx8⟩:∃q,x % 8=q:=⟨_,rfl⟩
     rw [hx8]at hway
     have hw8:(x:Int) % 8=(x8:Int):=by omega
     have hw9:(x:Int).tmod 8=(x8:Int):=by rw [Int.tmod_eq_emod_of_nonneg (by omega)];exact hw8
     clear hx8
     go_upto_region 9 with fail
     refine wp_region_held_drew (S:=(fun w'=>w'.cell? ⟨w.heap.size,2,none⟩=some (.slice (some ⟨g,ob,none⟩) bs.length cc)∧w'.cell? ⟨g,ob+r,none⟩=some (.int .u8 (x:Int)))) (by kernel_rfl) ?_ (fun hHeld=>?_)
     ·simp [go_sem, *]
     refine tk 0 (some 36) (.pointer (some ⟨w.heap.size,2,none⟩)) ?_
     try simp only [pS]
     refine tk 1 (some 37) (.slice (some ⟨g,ob,none⟩) bs.length cc) ?_
     try simp only [pS]
     refine tk 2 (some 38) (.int .i64 (i:Int)) ?_
     try simp only [pS]
     refine tk 3 (some 39) (.pointer (some ⟨w.heap.size,2,none⟩)) ?_
     try simp only [pS]
     refine tk 4 (some 40) (.slice (some ⟨g,ob,none⟩) bs.length cc) ?_
     try simp only [pS]
     refine tk 5 (some 41) (.int .i64 (bs.length:Int)) ?_
     try simp only [pS]
     refine tk 6 (some 42) (.int .i64 (r:Int)) ?_
     try simp only [pS]
     refine tk 7 (some 43) (.pointer (some ⟨g,ob+r,none⟩)) ?_
     try simp only [pS]
     refine tk 8 (some 44) (.int .u8 (x:Int)) ?_
     try simp only [pS]
     refine tk 9 (some 45) (.int .u8 (x8:Int)) ?_
     try simp only [pS]
     refine tk 10 (some 7) (.int .u8 (x8:Int)) ?_
     try simp only [pS]
     refine wpAnyH_done (by kernel_rfl) ?_ _
     go_wp2_with fail
     go_meet
     exact⟨by rw [hway],by(with_reducible (repeat' (first|exact Gr.refl _ _|refine Gr.drew ?_|refine Gr.setCell ?_ ?_ _|refine Gr.alloc ?_ ?_ _|omega|(simp;done)|(simp;omega)))),by simp⟩
   case rest=>
    obtain ⟨wb,hwb⟩:∃x,x=wc:=⟨_,rfl⟩
    subst hwb
    obtain ⟨rfl,hgb,hszb⟩:=hcut
    replace HP:=Lib.hid (HP.out.gr hgb)
    replace HV:=Lib.hid (HV.out.gr hgb hvl)
    replace HG:=Lib.hid (HG.out.trans (hgb.mono hszr))
    replace hszr:w.heap.size≤wb.heap.size:=by omega
    replace hvl:w.heap.size<wb.heap.size:=by omega
    clear hgb hszb c2
    obtain ⟨wy,hwy⟩:∃q,wayOf bs i=q:=⟨_,rfl⟩
    have hw8:wy<8:=hwy ▸ way_lt bs i
    have hsucc:=cellsTo_succ a (wayOf bs) i
    rw [hwy]at hsucc
    obtain ⟨x,hx⟩:∃q,2*(i % a)=q:=⟨_,rfl⟩
    obtain ⟨y,hy⟩:∃q,2*(i / a)=q:=⟨_,rfl⟩
    rw [hx,hy]at hsucc
    have hx1:2*((i:Int) % (a:Int))=(x:Int):=by rw [←hx];simp
    have hy1:2*((i:Int) / (a:Int))=(y:Int):=by rw [←hy];simp
    have hx2:(i:Int).tmod (a:Int)=(i:Int) % (a:Int):=Int.tmod_eq_emod_of_nonneg (by omega)
    have hy2:(i:Int).tdiv (a:Int)=(i:Int) / (a:Int):=Int.tdiv_eq_ediv_of_nonneg (by omega)
    have hxb:x≤4:=by have:=Nat.mod_lt i ha0;omega
    have hyb:y≤18:=by have:=Nat.div_le_self i a;omega
    have hna:¬(a:Int)=0:=by omega
    replace hsucc:=Lib.hid hsucc
    clear hx hy
    rw [hwy]
    replace hwy:=Lib.hid hwy
    by_cases p3:wy<3
    ·have p3':(wy:Int)<3:=by omega
     have hkk:cellK (kindW wy i) x y= [((x,y),(x+2,y),(x+2,y+2)),((x,y),(x+2,y+2),(x,y+2))]:=by simp [kindW,p3,cellK]
     go_wp2_with (at_builtin;refine wpList_appS _ rfl _ _ 103 rfl (w.heap.size+1) i0 _ 48 Tryz.underlying103 HI.out.1 HI.out.2.1 HI.out.2.2.1 HI.out.2.2.2 rfl (by decide) t6C_len t6C_one _ (cellsTo a (wayOf bs) i) rfl (HP.out.gr (by(with_reducible (repeat' (first|exact Gr.refl _ _|refine Gr.drew ?_|refine Gr.setCell ?_ ?_ _|refine Gr.alloc ?_ ?_ _|omega|(simp;done)|(simp;omega)))))) (wb.heap.size+1+1+1+1+1) _ [((x,y),(x+2,y),(x+2,y+2)),((x,y),(x+2,y+2),(x,y+2))] 2 rfl rfl (RC.more t6C_len (by simp) (by simp)) (by simp [maxLen];omega) (by simp;omega) (by simp;omega) ?_;intro v' w4 hS4 hkp4 hown;have HS4:=Lib.hid (And.intro hS4 hkp4);clear hS4 hkp4 hown)
     go_roundw
     case rel=>exact⟨i+1,by omega,by go_num,Lib.hid ((HV.out.gr (show Gr wb.heap.size wb _ from by(with_reducible (repeat' (first|exact Gr.refl _ _|refine Gr.drew ?_|refine Gr.setCell ?_ ?_ _|refine Gr.alloc ?_ ?_ _|omega|(simp;done)|(simp;omega))))) hvl).kp HS4.out.2 (fun e=>by have:=HP.out.own_ge e.symm;omega)),Lib.hid (by rw [hsucc.out,hkk];exact HS4.out.1),Lib.hid (HG.out.trans ((show Gr w.heap.size wb _ from by(with_reducible (repeat' (first|exact Gr.refl _ _|refine Gr.drew ?_|refine Gr.setCell ?_ ?_ _|refine Gr.alloc ?_ ?_ _|omega|(simp;done)|(simp;omega))))).trans (HS4.out.2.gr (fun b e=>by have:=HP.out.own_ge e;omega) (by simp;omega))))⟩
     case measure=>simp [intOf];omega
    ·have p3':¬(wy:Int)<3:=by omega
     by_cases p7:wy=7∧i=0
     ·obtain ⟨rfl,hi0⟩:=p7
      have hkk:cellK (kindW 7 i) x y= [((x,y),(x+2,y),(x+2,y+2)),((x,y),(x+2,y+2),(x,y+2))]:=by simp [kindW,hi0,cellK]
      have hi1:((i:Int) == 0)=true:=by simp [hi0]
      clear hi0
      go_wp2_with (at_builtin;refine wpList_appS _ rfl _ _ 103 rfl (w.heap.size+1) i0 _ 48 Tryz.underlying103 HI.out.1 HI.out.2.1 HI.out.2.2.1 HI.out.2.2.2 rfl (by decide) t6C_len t6C_one _ (cellsTo a (wayOf bs) i) rfl (HP.out.gr (by(with_reducible (repeat' (first|exact Gr.refl _ _|refine Gr.drew ?_|refine Gr.setCell ?_ ?_ _|refine Gr.alloc ?_ ?_ _|omega|(simp;done)|(simp;omega)))))) (wb.heap.size+1+1+1+1+1) _ [((x,y),(x+2,y),(x+2,y+2)),((x,y),(x+2,y+2),(x,y+2))] 2 rfl rfl (RC.more t6C_len (by simp) (by simp)) (by simp [maxLen];omega) (by simp;omega) (by simp;omega) ?_;intro v' w4 hS4 hkp4 hown;have HS4:=Lib.hid (And.intro hS4 hkp4);clear hS4 hkp4 hown)
      go_roundw
      case rel=>exact⟨i+1,by omega,by go_num,Lib.hid ((HV.out.gr (show Gr wb.heap.size wb _ from by(with_reducible (repeat' (first|exact Gr.refl _ _|refine Gr.drew ?_|refine Gr.setCell ?_ ?_ _|refine Gr.alloc ?_ ?_ _|omega|(simp;done)|(simp;omega))))) hvl).kp HS4.out.2 (fun e=>by have:=HP.out.own_ge e.symm;omega)),Lib.hid (by rw [hsucc.out,hkk];exact HS4.out.1),Lib.hid (HG.out.trans ((show Gr w.heap.size wb _ from by(with_reducible (repeat' (first|exact Gr.refl _ _|refine Gr.drew ?_|refine Gr.setCell ?_ ?_ _|refine Gr.alloc ?_ ?_ _|omega|(simp;done)|(simp;omega))))).trans (HS4.out.2.gr (fun b e=>by have:=HP.out.own_ge e;omega) (by simp;omega))))⟩
      case measure=>simp [intOf];omega
     ·have p77:¬(wy<3∨wy=7∧i=0):=by omega
      by_cases p5:wy<5
      ·have p5':(wy:Int)<5:=by omega
       have p7':((wy:Int) == 7)=false:=by simp;omega
       have hkk:cellK (kindW wy i) x y= [((x,y),(x+2,y),(x,y+2)),((x+2,y),(x+2,y+2),(x,y+2))]:=by simp only [kindW,if_neg p77,if_pos p5,cellK]
       clear p77 p7
       go_wp2_with (at_builtin;refine wpList_appS _ rfl _ _ 103 rfl (w.heap.size+1) i0 _ 48 Tryz.underlying103 HI.out.1 HI.out.2.1 HI.out.2.2.1 HI.out.2.2.2 rfl (by decide) t6C_len t6C_one _ (cellsTo a (wayOf bs) i) rfl (HP.out.gr (by(with_reducible (repeat' (first|exact Gr.refl _ _|refine Gr.drew ?_|refine Gr.setCell ?_ ?_ _|refine Gr.alloc ?_ ?_ _|omega|(simp;done)|(simp;omega)))))) (wb.heap.size+1+1+1+1+1) _ [((x,y),(x+2,y),(x,y+2)),((x+2,y),(x+2,y+2),(x,y+2))] 2 rfl rfl (RC.more t6C_len (by simp) (by simp)) (by simp [maxLen];omega) (by simp;omega) (by simp;omega) ?_;intro v' w4 hS4 hkp4 hown;have HS4:=Lib.hid (And.intro hS4 hkp4);clear hS4 hkp4 hown)
       go_roundw
       case rel=>exact⟨i+1,by omega,by go_num,Lib.hid ((HV.out.gr (show Gr wb.heap.size wb _ from by(with_reducible (repeat' (first|exact Gr.refl _ _|refine Gr.drew ?_|refine Gr.setCell ?_ ?_ _|refine Gr.alloc ?_ ?_ _|omega|(simp;done)|(simp;omega))))) hvl).kp HS4.out.2 (fun e=>by have:=HP.out.own_ge e.symm;omega)),Lib.hid (by rw [hsucc.out,hkk];exact HS4.out.1),Lib.hid (HG.out.trans ((show Gr w.heap.size wb _ from by(with_reducible (repeat' (first|exact Gr.refl _ _|refine Gr.drew ?_|refine Gr.setCell ?_ ?_ _|refine Gr.alloc ?_ ?_ _|omega|(simp;done)|(simp;omega))))).trans (HS4.out.2.gr (fun b e=>by have:=HP.out.own_ge e;omega) (by simp;omega))))⟩
       case measure=>simp [intOf];omega
      ·have p5':¬(wy:Int)<5:=by omega
       by_cases p6:wy<7
       ·have p6':(wy:Int)<7:=by omega
        have p7':((wy:Int) == 7)=false:=by simp;omega
        have hkk:cellK (kindW wy i) x y= [((x,y),(x+2,y),(x+1,y+1)),((x+2,y),(x+2,y+2),(x+1,y+1)),((x+2,y+2),(x,y+2),(x+1,y+1)),((x,y+2),(x,y),(x+1,y+1))]:=by simp only [kindW,if_neg p77,if_neg p5,if_pos p6,cellK]
        clear p77 p7
        go_wp2_with (at_builtin;refine wpList_appS _ rfl _ _ 103 rfl (w.heap.size+1) i0 _ 48 Tryz.underlying103 HI.out.1 HI.out.2.1 HI.out.2.2.1 HI.out.2.2.2 rfl (by decide) t6C_len t6C_one _ (cellsTo a (wayOf bs) i) rfl (HP.out.gr (by(with_reducible (repeat' (first|exact Gr.refl _ _|refine Gr.drew ?_|refine Gr.setCell ?_ ?_ _|refine Gr.alloc ?_ ?_ _|omega|(simp;done)|(simp;omega)))))) (wb.heap.size+1+1+1+1+1) _ [((x,y),(x+2,y),(x+1,y+1)),((x+2,y),(x+2,y+2),(x+1,y+1)),((x+2,y+2),(x,y+2),(x+1,y+1)),((x,y+2),(x,y),(x+1,y+1))] 4 rfl rfl (RC.more t6C_len (by simp) (by simp)) (by simp [maxLen];omega) (by simp;omega) (by simp;omega) ?_;intro v' w4 hS4 hkp4 hown;have HS4:=Lib.hid (And.intro hS4 hkp4);clear hS4 hkp4 hown)
        go_roundw
        case rel=>exact⟨i+1,by omega,by go_num,Lib.hid ((HV.out.gr (show Gr wb.heap.size wb _ from by(with_reducible (repeat' (first|exact Gr.refl _ _|refine Gr.drew ?_|refine Gr.setCell ?_ ?_ _|refine Gr.alloc ?_ ?_ _|omega|(simp;done)|(simp;omega))))) hvl).kp HS4.out.2 (fun e=>by have:=HP.out.own_ge e.symm;omega)),Lib.hid (by rw [hsucc.out,hkk];exact HS4.out.1),Lib.hid (HG.out.trans ((show Gr w.heap.size wb _ from by(with_reducible (repeat' (first|exact Gr.refl _ _|refine Gr.drew ?_|refine Gr.setCell ?_ ?_ _|refine Gr.alloc ?_ ?_ _|omega|(simp;done)|(simp;omega))))).trans (HS4.out.2.gr (fun b e=>by have:=HP.out.own_ge e;omega) (by simp;omega))))⟩
        case measure=>simp [intOf];omega
       ·have p6':¬(wy:Int)<7:=by omega
        have hkk:cellK (kindW wy i) x y= []:=by simp only [kindW,if_neg p77,if_neg p5,if_neg p6,cellK]
        have hi1:((i:Int) == 0)=false:=by simp;omega
        clear p77 p7
        go_wp2
        go_roundw
        case rel=>exact⟨i+1,by omega,by go_num,Lib.hid (HV.out.gr (show Gr wb.heap.size wb _ from by(with_reducible (repeat' (first|exact Gr.refl _ _|refine Gr.drew ?_|refine Gr.setCell ?_ ?_ _|refine Gr.alloc ?_ ?_ _|omega|(simp;done)|(simp;omega))))) hvl),Lib.hid (by rw [hsucc.out,hkk,List.append_nil];exact HP.out.gr (by(with_reducible (repeat' (first|exact Gr.refl _ _|refine Gr.drew ?_|refine Gr.setCell ?_ ?_ _|refine Gr.alloc ?_ ?_ _|omega|(simp;done)|(simp;omega)))))),Lib.hid (HG.out.trans (show Gr w.heap.size wb _ from by(with_reducible (repeat' (first|exact Gr.refl _ _|refine Gr.drew ?_|refine Gr.setCell ?_ ?_ _|refine Gr.alloc ?_ ?_ _|omega|(simp;done)|(simp;omega))))))⟩
        case measure=>simp [intOf];omega
  ·have hil:i=n:=by omega
   subst hil
   go_wp2
   go_ret
   exact⟨_,rfl,by rw [show cellsL a b (wayOf bs)=cellsTo a (wayOf bs) i from by rw [←HN.out];rfl];exact HP.out.mono (by omega),HG.out⟩
end Go.Proofs.YtjijceliboaeaaaGreatDoor
