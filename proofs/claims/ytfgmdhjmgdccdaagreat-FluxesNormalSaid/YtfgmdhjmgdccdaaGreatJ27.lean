/-
  Part 27 of the proof: Cells Moved.
-/
import Derived.Test.YtfgmdhjmgdccdaaGreatJ26
import Derived.Test.YtfgmdhjmgdccdaaGreatJ25
import Derived.Test.YtfgmdhjmgdccdaaGreatJ22
set_option linter.unusedSimpArgs false
set_option linter.unusedVariables false
namespace Go.Proofs.YtfgmdhjmgdccdaaGreat
open Go.RowKit Gus Go.Maps
abbrev mC (nx ny:Nat) (cv:Value) (m0 m1 m2 m3:Int) (den fi:Nat):List Value:= [.int .u8 (nx:Int),.int .u8 (ny:Int),cv,.int .i8 m0,.int .i8 m1,.int .i8 m2,.int .i8 m3,.int .u8 (den:Int),.int .u8 (fi:Int)]
abbrev t6C (t:T2):List Value:= [.int .i64 (t.1.1:Int),.int .i64 (t.1.2:Int),.int .i64 (t.2.1.1:Int),.int .i64 (t.2.1.2:Int),.int .i64 (t.2.2.1:Int),.int .i64 (t.2.2.2:Int)]
theorem t6C_len (t:T2):(t6C t).length=6:=rfl
theorem t6C_one (t:T2):∀v∈t6C t,v.oneCell'=true:=by simp [Value.oneCell']
theorem info_bT6:(Tryz.prog.info? 175).map (fun i=>(i.zero,i.size,i.bytes))=some (some (.agg #[.int .i64 0,.int .i64 0,.int .i64 0,.int .i64 0,.int .i64 0,.int .i64 0]),6,48):=by kernel_rfl
def wayOf (bs:List Nat) (i:Nat):Nat:=if bs.length=0 then 0 else bs.getD (i % bs.length) 0 % 8
theorem way_lt (bs:List Nat) (i:Nat):wayOf bs i<8:=by unfold wayOf;split<;>omega
def cellsTo (a:Nat) (way:Nat→Nat) (i:Nat):List T2:=(List.range i).flatMap fun i=>cellK (kindW (way i) i) (2*(i % a)) (2*(i / a))
theorem cellsTo_succ (a:Nat) (way:Nat→Nat) (i:Nat):cellsTo a way (i+1)=cellsTo a way i++cellK (kindW (way i) i) (2*(i % a)) (2*(i / a)):=by
 unfold cellsTo
 rw [List.range_succ,List.flatMap_append]
 simp
theorem cellK_le (k x y:Nat):(cellK k x y).length≤4:=by unfold cellK;split<;>simp
theorem cellsTo_len (a:Nat) (way:Nat→Nat) (i:Nat):(cellsTo a way i).length≤4*i:=by
 induction i with
 | zero=>simp [cellsTo]
 | succ i ih=>rw [cellsTo_succ,List.length_append];have:=cellK_le (kindW (way i) i) (2*(i % a)) (2*(i / a));omega
theorem RC.more {α:Type} {enc:α→List Value} {k g:Nat} {t:TypeId} {w:World} {l:List α} {cs:List Value} (hk:∀x,(enc x).length=k) (hg:g=w.heap.size) (h:l.flatMap enc=cs):RC enc k (w.alloc (.cells cs.toArray t)) g l:=
 RC.of_flat hk fun i u hu=>(VB.new' (t:=t) hg).c i u (by rw [←h];exact hu)
def BS (w:World) (v:Value) (l:List Nat):Prop:=l.length≤maxLen∧((∃a cap,v= .slice a 0 cap∧l= [])∨∃g o cap,v= .slice (some ⟨g,o,none⟩) l.length cap∧g<w.heap.size∧∀j (hj:j<l.length),w.cell? ⟨g,o+j,none⟩=some (.int .u8 (l[j]:Int)))
theorem BS.at {w:World} {v:Value} {l:List Nat} (h:BS w v l):∃a cap,v= .slice a l.length cap:=by
 rcases h with⟨_,⟨a,c,h,rfl⟩|⟨g,o,c,h,_⟩⟩
 ·exact⟨a,c,h⟩
 ·exact⟨_,c,h⟩
theorem BS.len {w:World} {v:Value} {l:List Nat} (h:BS w v l):l.length≤maxLen:=h.1
theorem BS.gr {w w':World} {v:Value} {l:List Nat} (h:BS w v l) (hg:Gr w.heap.size w w'):BS w' v l:=by
 rcases h with⟨h0,h|⟨g,o,c,h1,h2,h3⟩⟩
 ·exact⟨h0,.inl h⟩
 ·exact⟨h0,.inr ⟨g,o,c,h1,Nat.lt_of_lt_of_le h2 hg.size,fun j hj=>(hg.cell (p:=⟨g,o+j,none⟩) h2).trans (h3 j hj)⟩⟩
theorem BS.block {w:World} {v:Value} {l:List Nat} (h:BS w v l) (hl:l≠ []):∃g o cap,v= .slice (some ⟨g,o,none⟩) l.length cap∧g<w.heap.size∧∀j (hj:j<l.length),w.cell? ⟨g,o+j,none⟩=some (.int .u8 (l[j]:Int)):=by
 rcases h with⟨_,⟨_,_,_,h⟩|h⟩
 ·exact absurd h hl
 ·exact h
set_option maxRecDepth 20000 in
set_option maxHeartbeats 8000000 in
theorem ms_cells (nx ny den fi:Nat) (m0 m1 m2 m3:Int) (cw:Value) (bs:List Nat) (w:World) (h1:nx<256) (h2:ny<256) (hS:BS w cw bs) (hb:∀b∈bs,b<256):
  Calls Tryz.prog 93 #[.agg #[.int .u8 (nx:Int),.int .u8 (ny:Int),cw,.int .i8 m0,.int .i8 m1,.int .i8 m2,.int .i8 m3,.int .u8 (den:Int),.int .u8 (fi:Int)]] w (fun e w'=> ∃v',e= .returned v'∧SL t6C 6 175 w' w.heap.size v' (cellsL (1+nx % 3) (1+ny % 3) (wayOf bs))∧Gr w.heap.size w w'):=by
 obtain ⟨cv,cc,rfl⟩:=hS.at
 have HS:=Lib.hid hS
 have HB:=Lib.hid hb
 have l1:=hS.len
 have hl1:(bs.length:Int)≤9223372036854775807:=by simp only [maxLen]at l1;omega
 clear hS hb l1
 obtain ⟨a,ha⟩:∃a,1+nx % 3=a:=⟨_,rfl⟩
 obtain ⟨b,hb⟩:∃b,1+ny % 3=b:=⟨_,rfl⟩
 rw [ha,hb]
 have ha1:1+(nx:Int) % 3=(a:Int):=by omega
 have hb1:1+(ny:Int) % 3=(b:Int):=by omega
 have ha3:a≤3:=by omega
 have hb3:b≤3:=by omega
 have ha0:0<a:=by omega
 clear ha hb
 obtain ⟨n,hn⟩:∃n,a*b=n:=⟨_,rfl⟩
 have hn1:(a:Int)*(b:Int)=(n:Int):=by rw [←hn];simp
 have hn9:n≤9:=by rw [←hn];exact Nat.mul_le_mul ha3 hb3
 have HN:=Lib.hid hn
 clear hn
 have hwn:IntKind.i64.wrap (n:Int)=(n:Int):=wrap64_id (by omega) (by omega)
 obtain ⟨i0,hi,hz0,hz1,hz2⟩:=info_parts info_bT6
 have HI:=Lib.hid (And.intro hi (And.intro hz0 (And.intro hz1 hz2)))
 clear hi hz0 hz1 hz2
 go_enter Tryz.func93,Tryz.ntmps93
 go_wp2
 clear ha1 hb1
 have HV0:=Lib.hid (VB.new w [.int .u8 (nx:Int),.int .u8 (ny:Int),.slice cv bs.length cc,.int .i8 m0,.int .i8 m1,.int .i8 m2,.int .i8 m3,.int .u8 (den:Int),.int .u8 (fi:Int)] 26)
 have HG0:=Lib.hid (show Gr w.heap.size w (w.alloc (.cells #[.int .u8 (nx:Int),.int .u8 (ny:Int),.slice cv bs.length cc,.int .i8 m0,.int .i8 m1,.int .i8 m2,.int .i8 m3,.int .u8 (den:Int),.int .u8 (fi:Int)] 26))from by exact gzz)
 generalize w.alloc (.cells #[.int .u8 (nx:Int),.int .u8 (ny:Int),.slice cv bs.length cc,.int .i8 m0,.int .i8 m1,.int .i8 m2,.int .i8 m3,.int .u8 (den:Int),.int .u8 (fi:Int)] 26)=w0 at *
 go_loopw [5,6] (fun p s wr=> ∃i:Nat,i≤n∧s= .int .i64 i∧Hid (VB wr w.heap.size [.int .u8 (nx:Int),.int .u8 (ny:Int),.slice cv bs.length cc,.int .i8 m0,.int .i8 m1,.int .i8 m2,.int .i8 m3,.int .u8 (den:Int),.int .u8 (fi:Int)])∧Hid (SL t6C 6 175 wr (w.heap.size+1) p (cellsTo a (wayOf bs) i))∧Hid (Gr w.heap.size w wr)) (fun _ s _=>n - (intOf s).toNat)
 case atStart=>exact⟨0,Nat.zero_le _,rfl,HV0,Lib.hid SL.nil,HG0⟩
 case round=>
  clear HV0 HG0
  obtain ⟨i,hin,rfl,HV,HP,HG⟩:=hrel
  have hszr:=HG.out.size
  have hvl:=HV.out.lt
  obtain ⟨pa,pc,rfl⟩:=HP.out.at
  have hlen:=cellsTo_len a (wayOf bs) i
  by_cases hlt:i<n
  ·have q0:(i:Int)<(n:Int):=by omega
   have c2:=HV.out.c 2 _ rfl
   go_upto_if 35 with fail
   go_cut [7] (fun s wx=>s= .int .u8 (wayOf bs i:Int)∧Gr wr.heap.size wr wx∧wx.heap.size=wr.heap.size)
   case first=>
    by_cases hbs:bs.length=0
    ·have q2:decide (0<(bs.length:Int))=false:=decide_eq_false (by omega)
     have q3:¬0<bs.length:=by omega
     go_wp2_with fail
     go_meet
     exact⟨by simp [wayOf,hbs],by exact gzz,by simp⟩
    ·have q1:decide (0<(bs.length:Int))=true:=decide_eq_true (by omega)
     have q3:0<bs.length:=by omega
     obtain ⟨r,hr⟩:∃r,i % bs.length=r:=⟨_,rfl⟩
     have hr1:r<bs.length:=by rw [←hr];exact Nat.mod_lt _ (by omega)
     have hr2:(i:Int) % (bs.length:Int)=(r:Int):=by rw [←hr];simp
     have hr3:(i:Int).tmod (bs.length:Int)=(r:Int):=by rw [Int.tmod_eq_emod_of_nonneg (by omega)];exact hr2
     obtain ⟨x,hx⟩:∃x,bs[r]=x:=⟨_,rfl⟩
     have hx1:=HB.out x (hx ▸ List.getElem_mem hr1)
     obtain ⟨g,ob,cap',e4,hglt,hR⟩:=(HS.out.gr HG.out).block (by intro e;rw [e]at q3;simp at q3)
     injection e4 with e4 _ e5
     subst e4 e5
     have u0:=hR r hr1
     rw [hx]at u0
     have hway:wayOf bs i=x % 8:=by unfold wayOf;rw [if_neg hbs,hr,List.getD_eq_getElem?_getD,List.getElem?_eq_getElem hr1,hx];rfl
     clear hR hr
     obtain ⟨x8,hx8⟩:∃q,x % 8=q:=⟨_,rfl⟩
     rw [hx8]at hway
     have hw8:(x:Int) % 8=(x8:Int):=by omega
     have hw9:(x:Int).tmod 8=(x8:Int):=by rw [Int.tmod_eq_emod_of_nonneg (by omega)];exact hw8
     clear hx8
     go_upto_region 9 with fail
     refine wp_region_held_drew (S:=(fun w'=>w'.cell? ⟨w.heap.size,2,none⟩=some (.slice (some ⟨g,ob,none⟩) bs.length cc)∧w'.cell? ⟨g,ob+r,none⟩=some (.int .u8 (x:Int)))) (by kernel_rfl) ?_ (fun hHeld=>?_)
     ·simp [go_sem, *]
     refine tk 0 (some 36) (.pointer (some ⟨w.heap.size,2,none⟩)) ?_
     try simp only [pS]
     refine tk 1 (some 37) (.slice (some ⟨g,ob,none⟩) bs.length cc) ?_
     try simp only [pS]
     refine tk 2 (some 38) (.int .i64 (i:Int)) ?_
     try simp only [pS]
     refine tk 3 (some 39) (.pointer (some ⟨w.heap.size,2,none⟩)) ?_
     try simp only [pS]
     refine tk 4 (some 40) (.slice (some ⟨g,ob,none⟩) bs.length cc) ?_
     try simp only [pS]
     refine tk 5 (some 41) (.int .i64 (bs.length:Int)) ?_
     try simp only [pS]
     refine tk 6 (some 42) (.int .i64 (r:Int)) ?_
     try simp only [pS]
     refine tk 7 (some 43) (.pointer (some ⟨g,ob+r,none⟩)) ?_
     try simp only [pS]
     refine tk 8 (some 44) (.int .u8 (x:Int)) ?_
     try simp only [pS]
     refine tk 9 (some 45) (.int .u8 (x8:Int)) ?_
     try simp only [pS]
     refine tk 10 (some 7) (.int .u8 (x8:Int)) ?_
     try simp only [pS]
     refine wpAnyH_done (by kernel_rfl) ?_ _
     go_wp2_with fail
     go_meet
     exact⟨by rw [hway],by exact gzz,by simp⟩
   case rest=>
    obtain ⟨wb,hwb⟩:∃x,x=wc:=⟨_,rfl⟩
    subst hwb
    obtain ⟨rfl,hgb,hszb⟩:=hcut
    replace HP:=Lib.hid (HP.out.gr hgb)
    replace HV:=Lib.hid (HV.out.gr hgb hvl)
    replace HG:=Lib.hid (HG.out.trans (hgb.mono hszr))
    replace hszr:w.heap.size≤wb.heap.size:=by omega
    replace hvl:w.heap.size<wb.heap.size:=by omega
    clear hgb hszb c2
    obtain ⟨wy,hwy⟩:∃q,wayOf bs i=q:=⟨_,rfl⟩
    have hw8:wy<8:=hwy ▸ way_lt bs i
    have hsucc:=cellsTo_succ a (wayOf bs) i
    rw [hwy]at hsucc
    obtain ⟨x,hx⟩:∃q,2*(i % a)=q:=⟨_,rfl⟩
    obtain ⟨y,hy⟩:∃q,2*(i / a)=q:=⟨_,rfl⟩
    rw [hx,hy]at hsucc
    have hx1:2*((i:Int) % (a:Int))=(x:Int):=by rw [←hx];simp
    have hy1:2*((i:Int) / (a:Int))=(y:Int):=by rw [←hy];simp
    have hx2:(i:Int).tmod (a:Int)=(i:Int) % (a:Int):=Int.tmod_eq_emod_of_nonneg (by omega)
    have hy2:(i:Int).tdiv (a:Int)=(i:Int) / (a:Int):=Int.tdiv_eq_ediv_of_nonneg (by omega)
    have hxb:x≤4:=by have:=Nat.mod_lt i ha0;omega
    have hyb:y≤18:=by have:=Nat.div_le_self i a;omega
    have hna:¬(a:Int)=0:=by omega
    replace hsucc:=Lib.hid hsucc
    clear hx hy
    rw [hwy]
    replace hwy:=Lib.hid hwy
    by_cases p3:wy<3
    ·have p3':(wy:Int)<3:=by omega
     have hkk:cellK (kindW wy i) x y= [((x,y),(x+2,y),(x+2,y+2)),((x,y),(x+2,y+2),(x,y+2))]:=by simp [kindW,p3,cellK]
     go_wp2_with (at_builtin;refine wpList_appS _ rfl _ _ 173 rfl (w.heap.size+1) i0 _ 48 Tryz.underlying173 HI.out.1 HI.out.2.1 HI.out.2.2.1 HI.out.2.2.2 rfl (by decide) t6C_len t6C_one _ (cellsTo a (wayOf bs) i) rfl (HP.out.gr (by exact gzz)) (wb.heap.size+1+1+1+1+1) _ [((x,y),(x+2,y),(x+2,y+2)),((x,y),(x+2,y+2),(x,y+2))] 2 rfl rfl (RC.more t6C_len (by simp) (by simp)) (by simp [maxLen];omega) (by simp;omega) (by simp;omega) ?_;intro v' w4 hS4 hkp4 hown;have HS4:=Lib.hid (And.intro hS4 hkp4);clear hS4 hkp4 hown)
     go_roundw
     case rel=>exact⟨i+1,by omega,by go_num,Lib.hid ((HV.out.gr (show Gr wb.heap.size wb _ from by exact gzz) hvl).kp HS4.out.2 (fun e=>by have:=HP.out.own_ge e.symm;omega)),Lib.hid (by rw [hsucc.out,hkk];exact HS4.out.1),Lib.hid (HG.out.trans ((show Gr w.heap.size wb _ from by exact gzz).trans (HS4.out.2.gr (fun b e=>by have:=HP.out.own_ge e;omega) (by simp;omega))))⟩
     case measure=>simp [intOf];omega
    ·have p3':¬(wy:Int)<3:=by omega
     by_cases p7:wy=7∧i=0
     ·obtain ⟨rfl,hi0⟩:=p7
      have hkk:cellK (kindW 7 i) x y= [((x,y),(x+2,y),(x+2,y+2)),((x,y),(x+2,y+2),(x,y+2))]:=by simp [kindW,hi0,cellK]
      have hi1:((i:Int) == 0)=true:=by simp [hi0]
      clear hi0
      go_wp2_with (at_builtin;refine wpList_appS _ rfl _ _ 173 rfl (w.heap.size+1) i0 _ 48 Tryz.underlying173 HI.out.1 HI.out.2.1 HI.out.2.2.1 HI.out.2.2.2 rfl (by decide) t6C_len t6C_one _ (cellsTo a (wayOf bs) i) rfl (HP.out.gr (by exact gzz)) (wb.heap.size+1+1+1+1+1) _ [((x,y),(x+2,y),(x+2,y+2)),((x,y),(x+2,y+2),(x,y+2))] 2 rfl rfl (RC.more t6C_len (by simp) (by simp)) (by simp [maxLen];omega) (by simp;omega) (by simp;omega) ?_;intro v' w4 hS4 hkp4 hown;have HS4:=Lib.hid (And.intro hS4 hkp4);clear hS4 hkp4 hown)
      go_roundw
      case rel=>exact⟨i+1,by omega,by go_num,Lib.hid ((HV.out.gr (show Gr wb.heap.size wb _ from by exact gzz) hvl).kp HS4.out.2 (fun e=>by have:=HP.out.own_ge e.symm;omega)),Lib.hid (by rw [hsucc.out,hkk];exact HS4.out.1),Lib.hid (HG.out.trans ((show Gr w.heap.size wb _ from by exact gzz).trans (HS4.out.2.gr (fun b e=>by have:=HP.out.own_ge e;omega) (by simp;omega))))⟩
      case measure=>simp [intOf];omega
     ·have p77:¬(wy<3∨wy=7∧i=0):=by omega
      by_cases p5:wy<5
      ·have p5':(wy:Int)<5:=by omega
       have p7':((wy:Int) == 7)=false:=by simp;omega
       have hkk:cellK (kindW wy i) x y= [((x,y),(x+2,y),(x,y+2)),((x+2,y),(x+2,y+2),(x,y+2))]:=by simp only [kindW,if_neg p77,if_pos p5,cellK]
       clear p77 p7
       go_wp2_with (at_builtin;refine wpList_appS _ rfl _ _ 173 rfl (w.heap.size+1) i0 _ 48 Tryz.underlying173 HI.out.1 HI.out.2.1 HI.out.2.2.1 HI.out.2.2.2 rfl (by decide) t6C_len t6C_one _ (cellsTo a (wayOf bs) i) rfl (HP.out.gr (by exact gzz)) (wb.heap.size+1+1+1+1+1) _ [((x,y),(x+2,y),(x,y+2)),((x+2,y),(x+2,y+2),(x,y+2))] 2 rfl rfl (RC.more t6C_len (by simp) (by simp)) (by simp [maxLen];omega) (by simp;omega) (by simp;omega) ?_;intro v' w4 hS4 hkp4 hown;have HS4:=Lib.hid (And.intro hS4 hkp4);clear hS4 hkp4 hown)
       go_roundw
       case rel=>exact⟨i+1,by omega,by go_num,Lib.hid ((HV.out.gr (show Gr wb.heap.size wb _ from by exact gzz) hvl).kp HS4.out.2 (fun e=>by have:=HP.out.own_ge e.symm;omega)),Lib.hid (by rw [hsucc.out,hkk];exact HS4.out.1),Lib.hid (HG.out.trans ((show Gr w.heap.size wb _ from by exact gzz).trans (HS4.out.2.gr (fun b e=>by have:=HP.out.own_ge e;omega) (by simp;omega))))⟩
       case measure=>simp [intOf];omega
      ·have p5':¬(wy:Int)<5:=by omega
       by_cases p6:wy<7
       ·have p6':(wy:Int)<7:=by omega
        have p7':((wy:Int) == 7)=false:=by simp;omega
        have hkk:cellK (kindW wy i) x y= [((x,y),(x+2,y),(x+1,y+1)),((x+2,y),(x+2,y+2),(x+1,y+1)),((x+2,y+2),(x,y+2),(x+1,y+1)),((x,y+2),(x,y),(x+1,y+1))]:=by simp only [kindW,if_neg p77,if_neg p5,if_pos p6,cellK]
        clear p77 p7
        go_wp2_with (at_builtin;refine wpList_appS _ rfl _ _ 173 rfl (w.heap.size+1) i0 _ 48 Tryz.underlying173 HI.out.1 HI.out.2.1 HI.out.2.2.1 HI.out.2.2.2 rfl (by decide) t6C_len t6C_one _ (cellsTo a (wayOf bs) i) rfl (HP.out.gr (by exact gzz)) (wb.heap.size+1+1+1+1+1) _ [((x,y),(x+2,y),(x+1,y+1)),((x+2,y),(x+2,y+2),(x+1,y+1)),((x+2,y+2),(x,y+2),(x+1,y+1)),((x,y+2),(x,y),(x+1,y+1))] 4 rfl rfl (RC.more t6C_len (by simp) (by simp)) (by simp [maxLen];omega) (by simp;omega) (by simp;omega) ?_;intro v' w4 hS4 hkp4 hown;have HS4:=Lib.hid (And.intro hS4 hkp4);clear hS4 hkp4 hown)
        go_roundw
        case rel=>exact⟨i+1,by omega,by go_num,Lib.hid ((HV.out.gr (show Gr wb.heap.size wb _ from by exact gzz) hvl).kp HS4.out.2 (fun e=>by have:=HP.out.own_ge e.symm;omega)),Lib.hid (by rw [hsucc.out,hkk];exact HS4.out.1),Lib.hid (HG.out.trans ((show Gr w.heap.size wb _ from by exact gzz).trans (HS4.out.2.gr (fun b e=>by have:=HP.out.own_ge e;omega) (by simp;omega))))⟩
        case measure=>simp [intOf];omega
       ·have p6':¬(wy:Int)<7:=by omega
        have hkk:cellK (kindW wy i) x y= []:=by simp only [kindW,if_neg p77,if_neg p5,if_neg p6,cellK]
        have hi1:((i:Int) == 0)=false:=by simp;omega
        clear p77 p7
        go_wp2
        go_roundw
        case rel=>exact⟨i+1,by omega,by go_num,Lib.hid (HV.out.gr (show Gr wb.heap.size wb _ from by exact gzz) hvl),Lib.hid (by rw [hsucc.out,hkk,List.append_nil];exact HP.out.gr (by exact gzz)),Lib.hid (HG.out.trans (show Gr w.heap.size wb _ from by exact gzz))⟩
        case measure=>simp [intOf];omega
  ·have hil:i=n:=by omega
   subst hil
   go_wp2
   go_ret
   exact⟨_,rfl,by rw [show cellsL a b (wayOf bs)=cellsTo a (wayOf bs) i from by rw [←HN.out];rfl];exact HP.out.mono (by omega),HG.out⟩
end Go.Proofs.YtfgmdhjmgdccdaaGreat
namespace Go.Proofs.YtfgmdhjmgdccdaaGreat
open Go.RowKit Gus Go.Maps
def kfix (a b c d:Int):K4:=if a*d - b*c=0 then(1,0,0,1)else if a*d - b*c<0 then(a,b,-c,-d)else(a,b,c,d)
def mapK (m0 m1 m2 m3:Int):K4:=kfix (m0.tmod 4) (m1.tmod 4) (m2.tmod 4) (m3.tmod 4)
theorem det_kfix (a b c d:Int):0<det4 (kfix a b c d):=by
 unfold kfix
 split
 ·decide
 ·split
  ·have e:det4 (a,b,-c,-d)= -(a*d - b*c):=by simp only [det4];rw [Int.mul_neg,Int.mul_neg];omega
   omega
  ·have e:det4 (a,b,c,d)=a*d - b*c:=rfl
   omega
def small (n:Int):Prop:= -3≤n∧n≤3
theorem tmod4_small (n:Int):small (n.tmod 4):=by
 have h:=Int.natAbs_tmod n 4
 have h1:n.natAbs % 4<4:=Nat.mod_lt _ (by omega)
 have h2:(4:Int).natAbs=4:=rfl
 rw [h2]at h
 unfold small
 omega
theorem kfix_small {a b c d:Int} (ha:small a) (hb:small b) (hc:small c) (hd:small d):small (kfix a b c d).1∧small (kfix a b c d).2.1∧small (kfix a b c d).2.2.1∧small (kfix a b c d).2.2.2:=by
 unfold small at *
 unfold kfix
 split
 ·decide
 ·split<;>(simp only;omega)
theorem mul_bound {a b:Int} {m n:Nat} (h1:a.natAbs≤m) (h2:b.natAbs≤n): -((m*n:Nat):Int)≤a*b∧a*b≤((m*n:Nat):Int):=by
 have h3:(a*b).natAbs≤m*n:=by rw [Int.natAbs_mul];exact Nat.mul_le_mul h1 h2
 omega
theorem small_mul {a b:Int} (h1:small a) (h2:small b): -9≤a*b∧a*b≤9:=by
 unfold small at h1 h2
 exact mul_bound (m:=3) (n:=3) (by omega) (by omega)
theorem small_mulN {a:Int} {x:Nat} (h1:small a) (h2:x≤60): -180≤a*(x:Int)∧a*(x:Int)≤180:=by
 unfold small at h1
 exact mul_bound (m:=3) (n:=60) (by omega) (by omega)
theorem wrap8_id {n:Int} (h1: -128≤n) (h2:n≤127):IntKind.i8.wrap n=n:=by
 have h3:(2:Int) ^ IntKind.bits .i8=256:=by decide
 have h4:(2:Int) ^ (IntKind.bits .i8 - 1)=128:=by decide
 have h5:IntKind.signed .i8=true:=rfl
 simp only [IntKind.wrap,h3,h4,h5,Bool.true_and,decide_eq_true_eq]
 split<;>omega
theorem info_I2:(Tryz.prog.info? 118).map (·.size)=some 2:=by kernel_rfl
set_option maxRecDepth 20000 in
set_option maxHeartbeats 8000000 in
theorem ms_moved (nx ny den fi:Nat) (m0 m1 m2 m3:Int) (cv:Value) (x y:Nat) (hx:x≤60) (hy:y≤60) (w:World):
  Calls Tryz.prog 94 #[.agg #[.int .u8 (nx:Int),.int .u8 (ny:Int),cv,.int .i8 m0,.int .i8 m1,.int .i8 m2,.int .i8 m3,.int .u8 (den:Int),.int .u8 (fi:Int)],.agg #[.int .i64 (x:Int),.int .i64 (y:Int)]] w
   (Ret w (.agg #[.int .i64 ((mapK m0 m1 m2 m3).1*x+(mapK m0 m1 m2 m3).2.1*y),.int .i64 ((mapK m0 m1 m2 m3).2.2.1*x+(mapK m0 m1 m2 m3).2.2.2*y)])):=by
 unfold mapK
 have s0:=tmod4_small m0
 have s1:=tmod4_small m1
 have s2:=tmod4_small m2
 have s3:=tmod4_small m3
 obtain ⟨k0,e0⟩:∃k,m0.tmod 4=k:=⟨_,rfl⟩
 obtain ⟨k1,e1⟩:∃k,m1.tmod 4=k:=⟨_,rfl⟩
 obtain ⟨k2,e2⟩:∃k,m2.tmod 4=k:=⟨_,rfl⟩
 obtain ⟨k3,e3⟩:∃k,m3.tmod 4=k:=⟨_,rfl⟩
 rw [e0]at s0
 rw [e1]at s1
 rw [e2]at s2
 rw [e3]at s3
 rw [e0,e1,e2,e3]
 have p1:=small_mul s0 s3
 have p2:=small_mul s1 s2
 have hs:∀k,small k→IntKind.i8.wrap k=k∧IntKind.i64.wrap k=k∧IntKind.i64.wrap (-k)= -k:=fun k h=>by unfold small at h;exact⟨wrap8_id (by omega) (by omega),wrap64_id (by omega) (by omega),wrap64_id (by omega) (by omega)⟩
 obtain ⟨a0,b0,_⟩:=hs k0 s0
 obtain ⟨a1,b1,_⟩:=hs k1 s1
 obtain ⟨a2,b2,c2⟩:=hs k2 s2
 obtain ⟨a3,b3,c3⟩:=hs k3 s3
 have w1:IntKind.i64.wrap (k0*k3)=k0*k3:=wrap64_id (by omega) (by omega)
 have w2:IntKind.i64.wrap (k1*k2)=k1*k2:=wrap64_id (by omega) (by omega)
 obtain ⟨d,hd⟩:∃d,k0*k3 - k1*k2=d:=⟨_,rfl⟩
 have w3:IntKind.i64.wrap d=d:=wrap64_id (by omega) (by omega)
 have wx:IntKind.i64.wrap (x:Int)=x:=wrap64_id (by omega) (by omega)
 have wy:IntKind.i64.wrap (y:Int)=y:=wrap64_id (by omega) (by omega)
 have fm_:∀k (u:Nat),small k→u≤60→IntKind.i64.wrap (k*(u:Int))=k*(u:Int):=fun k u h1 h2=>by have:=small_mulN h1 h2;exact wrap64_id (by omega) (by omega)
 have fs_:∀k k',small k→small k'→IntKind.i64.wrap (k*(x:Int)+k'*(y:Int))=k*(x:Int)+k'*(y:Int):=fun k k' h1 h2=>by have:=small_mulN h1 hx;have:=small_mulN h2 hy;exact wrap64_id (by omega) (by omega)
 have n2:small (-k2):=by unfold small at *;omega
 have n3:small (-k3):=by unfold small at *;omega
 have g0:=fm_ k0 x s0 hx
 have g1:=fm_ k1 y s1 hy
 have g2:=fs_ k0 k1 s0 s1
 have g3:=fm_ k2 x s2 hx
 have g4:=fm_ k3 y s3 hy
 have g5:=fs_ k2 k3 s2 s3
 have g6:=fm_ (-k2) x n2 hx
 have g7:=fm_ (-k3) y n3 hy
 have g8:=fs_ (-k2) (-k3) n2 n3
 unfold kfix
 rw [hd]
 clear s0 s1 s2 s3 n2 n3 hs fm_ fs_ p1 p2 hx hy
 by_cases d0:d=0
 ·have q1:(d == 0)=true:=by simp [d0]
  have q2:¬d<0:=by omega
  rw [if_pos d0]
  clear d0
  go_enter Tryz.func94,Tryz.ntmps94
  go_wp2
  refine ret_row (g:=w.heap.size+1+1) (cs:= [.int .i64 (x:Int),.int .i64 (y:Int)]) Tryz.results94 rfl ?_ Tryz.underlying118 rfl info_I2 rfl ⟨rfl,?_⟩
  ·exact vbb
  ·exact gzz
 ·have q1:(d == 0)=false:=by simpa using d0
  rw [if_neg d0]
  by_cases d1:d<0
  ·rw [if_pos d1]
   clear d0
   go_enter Tryz.func94,Tryz.ntmps94
   go_wp2
   refine ret_row (g:=w.heap.size+1+1) (cs:= [.int .i64 (k0*(x:Int)+k1*(y:Int)),.int .i64 (-k2*(x:Int)+ -k3*(y:Int))]) Tryz.results94 rfl ?_ Tryz.underlying118 rfl info_I2 rfl ⟨rfl,?_⟩
   ·exact vbb
   ·exact gzz
  ·rw [if_neg d1]
   clear d0
   go_enter Tryz.func94,Tryz.ntmps94
   go_wp2
   refine ret_row (g:=w.heap.size+1+1) (cs:= [.int .i64 (k0*(x:Int)+k1*(y:Int)),.int .i64 (k2*(x:Int)+k3*(y:Int))]) Tryz.results94 rfl ?_ Tryz.underlying118 rfl info_I2 rfl ⟨rfl,?_⟩
   ·exact vbb
   ·exact gzz
set_option maxRecDepth 20000 in
set_option maxHeartbeats 8000000 in
theorem ms_Has (t:Tri) (q:Nat) (w:World):Calls Tryz.prog 95 #[triV t,.int .i64 (q:Int)] w (Ret w (.bool (has3 t q))):=by
 obtain ⟨x,y,z⟩:=t
 unfold has3
 by_cases h1:x=q
 ·have q1:((x:Int) == (q:Int))=true:=by simp [h1]
  have e:(x == q || y == q || z == q)=true:=by simp [h1]
  simp only [e]
  clear e h1
  go_enter Tryz.func95,Tryz.ntmps95
  go_wp2
  go_ret
  exact⟨rfl,by exact gzz⟩
 ·have q1:((x:Int) == (q:Int))=false:=by simp;omega
  by_cases h2:y=q
  ·have q2:((y:Int) == (q:Int))=true:=by simp [h2]
   have e:(x == q || y == q || z == q)=true:=by simp [h2]
   simp only [e]
   clear e h1 h2
   go_enter Tryz.func95,Tryz.ntmps95
   go_wp2
   go_ret
   exact⟨rfl,by exact gzz⟩
  ·have q2:((y:Int) == (q:Int))=false:=by simp;omega
   obtain ⟨r,hr⟩:∃r,(x == q || y == q || z == q)=r:=⟨_,rfl⟩
   have q3:((z:Int) == (q:Int))=r:=by
    rw [←hr]
    have e1:(x == q)=false:=by simpa using h1
    have e2:(y == q)=false:=by simpa using h2
    rw [e1,e2,Bool.false_or,Bool.false_or]
    by_cases h3:z=q
    ·subst h3;simp
    ·have e3:(z == q)=false:=by simpa using h3
     rw [e3];simp;omega
   simp only [hr]
   clear hr h1 h2
   go_enter Tryz.func95,Tryz.ntmps95
   go_wp2
   go_ret
   exact⟨rfl,by exact gzz⟩
end Go.Proofs.YtfgmdhjmgdccdaaGreat
