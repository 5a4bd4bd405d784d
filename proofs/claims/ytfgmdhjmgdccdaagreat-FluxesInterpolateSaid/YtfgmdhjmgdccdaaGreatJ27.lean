/-
  Part 27 of the proof: PolH PolI PolJ.
-/
import Derived.Test.YtfgmdhjmgdccdaaGreatJ26
set_option linter.unusedSimpArgs false
set_option linter.unusedVariables false
set_option maxHeartbeats 8000000
namespace Go.Proofs.YtfgmdhjmgdccdaaGreat
open Go.RowKit Gus Go.Maps
def Turns (F:FuncId) (cb:Array Value) (f:T→T) (l:List T) (w:World):Prop:=
 (∀args w,(callFunc F args).run Tryz.prog w= .ok (.enter F args) w)∧∀W,Gr w.heap.size w W→∀t∈l,Calls Tryz.prog F (#[tV t]++cb) W (Ret W (tV (f t)))
set_option maxRecDepth 20000 in
set_option maxHeartbeats 4000000 in
theorem po_each {F:FuncId} {cb:Array Value} {f:T→T} (l:List T) (v:Value) (w:World) (hS:PL w 0 v l) (hok:∀t∈l,t.ok) (ht:tot l≤100000000000) (hf:Turns F cb f (gat l) w) (hfok:∀t∈gat l,(f t).ok) (hft:tot ((gat l).map f)≤100000000000):
  Calls Tryz.prog 44 #[v,.func (.func F) #[] cb] w (RetP w (gat ((gat l).map f))):=by
 obtain ⟨eg,hf⟩:=hf
 have hB1:=Lh (po_brought l v w hS hok ht)
 have HF:=Lh (And.intro hf (And.intro hfok hft))
 have hlen:(gat l).length≤100000000000:=by
  have h1:=tot_len (gat l);have h3:=tot_gat l
  omega
 obtain ⟨i0,hi,hz0,hz1,hz2⟩:=info_parts info_T
 have HI:=Lh (And.intro hi (And.intro hz0 (And.intro hz1 hz2)))
 clear hS hok ht hf hfok hft hi hz0 hz1 hz2
 generalize gat l=gl at *
 go_enter Tryz.func44,Tryz.ntmps44
 go_wp2_with fail
 refine hB1.out.mono ?_
 rintro e w2 ⟨v2,rfl,hS2,hg2⟩
 obtain ⟨a2,c2,rfl⟩:=hS2.at
 have HS2:=Lh hS2
 have HG2:=Lh hg2
 have hsz2:=hg2.size
 clear hS2 hg2
 go_wp2
 go_loopw [5,11] (fun p s wr=> ∃n:Nat,s= .int .i64 n∧n≤gl.length∧Hid (PL wr w2.heap.size p ((gl.take n).map f))∧Hid (Gr w2.heap.size w2 wr)) (fun _ s _=>gl.length - (intOf s).toNat)
 case atStart=>exact⟨0,rfl,Nat.zero_le _,SL.nil,Gr.refl _ _⟩
 case round=>
  obtain ⟨n,rfl,hn,HP,HG⟩:=hrel
  have hszr:=HG.out.size
  by_cases hlt:n<gl.length
  ·obtain ⟨t,ht⟩:∃t,gl[n]=t:=⟨_,rfl⟩
   obtain ⟨g,cap',e1,_,_,_,hsh,hR⟩:=(HS2.out.gr HG.out).block (by intro e;rw [e]at hlt;simp at hlt)
   injection e1 with e1 _ e2
   subst e1 e2
   obtain ⟨v0,v1,v2,v3,v4,v5,v6⟩:=hR.term hlt ht
   have hmem:t∈gl:=ht ▸ List.getElem_mem hlt
   have hglt:=hsh.lt
   have hgr0:Gr w.heap.size w wr:=HG2.out.trans (HG.out.mono hsz2)
   have HG0:=Lh hgr0
   have HT:=Lh ht
   obtain ⟨y,HY⟩:∃y,Hid (f t=y):=⟨f t,Lh rfl⟩
   have hcall:∀W,Gr w.heap.size w W→Calls Tryz.prog F (#[tV t]++cb) W (Ret W (tV y)):=fun W hW=>HY.out ▸ HF.out.1 W hW t hmem
   have HC:=Lh hcall
   have hpl:((gl.take n).map f).length≤100000000000:=by simp;omega
   obtain ⟨acc,hacc⟩:∃acc,(gl.take n).map f=acc:=⟨_,rfl⟩
   rw [hacc]at HP hpl
   have HACC:=Lh hacc
   clear hacc
   obtain ⟨pa,pc,rfl⟩:=HP.out.at
   clear hR hsh ht hgr0 hcall hmem
   go_wp2_with (first
    | (go_at_fn F;refine(HC.out _ (HG0.out.trans (by exact gzz))).mono ?_;rintro e w3 ⟨rfl,hg3⟩;have hsz3:=hg3.size;(try simp at hsz3);have HG3:=Lh hg3;clear hg3)
    | (at_builtin;refine wpList_appS _ rfl _ _ 45 rfl w2.heap.size i0 _ 72 Tryz.underlying45 HI.out.1 HI.out.2.1 HI.out.2.2.1 HI.out.2.2.2 rfl (by decide) tC_len tC_one _ acc rfl (HP.out.gr (by exact gcc HG3 gzz)) w3.heap.size _ [y] 1 rfl rfl (RC.new1 rfl) (by unfold maxLen;simp;omega) (by simp;omega) (by simp;omega) ?_;intro v' w4 hS4 hkp4 _;have HS4:=Lh (And.intro hS4 hkp4);clear hS4 hkp4))
   go_roundw
   case rel=>
    have hgr3:Gr w2.heap.size wr w4:=(show Gr w2.heap.size wr _ from by exact gcc HG3 gzz).trans (HS4.out.2.gr (fun b e=>HP.out.own_ge e) (by simp;omega))
    refine⟨n+1,by go_num,by omega,?_,HG.out.trans hgr3⟩
    show PL _ _ _ _
    rw [List.take_succ_eq_append_getElem hlt,List.map_append,HT.out]
    simp only [List.map_cons,List.map_nil,HY.out,HACC.out]
    exact HS4.out.1
   case measure=>simp [intOf];omega
  ·obtain rfl:n=gl.length:=by omega
   have hgr0:Gr w.heap.size w wr:=HG2.out.trans (HG.out.mono hsz2)
   have hP:=Lh (po_gathered (gl.map f) u5 wr (by have h:=HP.out;rw [List.take_length]at h;exact h.mono (Nat.zero_le _)) (by
    intro t ht
    obtain ⟨x,hx,rfl⟩:=List.mem_map.1 ht
    exact HF.out.2.1 x hx) HF.out.2.2)
   have HG0:=Lh hgr0
   clear hgr0
   go_wp2_with (go_at_call 42;refine hP.out.mono ?_;rintro e w4 ⟨v4,rfl,hS4,hg4⟩;have HS4:=Lh (And.intro hS4 hg4);clear hS4 hg4)
   go_ret
   have hsz0:=HG0.out.size
   exact⟨_,rfl,HS4.out.1.mono hsz0,HG0.out.trans (HS4.out.2.mono hsz0)⟩
set_option maxRecDepth 20000 in
set_option maxHeartbeats 4000000 in
theorem PScale_raw {k:Rat} {r:List T} (v:Value) (w:World) (hE:∀W g,VB W g (fracC k)→Gr w.heap.size w W→g<W.heap.size→Calls Tryz.prog 44 #[v,.func (.func 48) #[] #[.pointer (some ⟨g,0,none⟩)]] W (RetP W r)):Calls Tryz.prog 17 #[v,fracV k] w (RetP w r):=by
 have hE:=Lh hE
 go_enter Tryz.func17,Tryz.ntmps17
 go_wp2_with fail
 refine(hE.out _ w.heap.size (VB.new w (fracC k) _) (by exact gzz) (by simp)).mono ?_
 rintro e w2 ⟨v2,rfl,hS3,hg3⟩
 have HS3:=Lh hS3
 have HG3:=Lh hg3
 have hsz:=hg3.size
 (try simp at hsz)
 clear hS3 hg3
 go_wp2
 go_ret
 exact⟨_,rfl,HS3.out.mono (by simp),by exact gcc HG3 gzz⟩
theorem tot_scale (k:Rat):∀l:List T,tot (l.map (T.scale k))≤tot l+l.length*hw k
 | []=>by simp [tot]
 | t :: r=>by
  have h:=tot_scale k r
  have h2:=hw_mul k t.c
  simp only [List.map_cons,tot,List.length_cons,Nat.add_mul,T.scale]at *
  omega
theorem hw_nat {i:Nat} (h:i≤12):hw ((i:Int):Rat)≤2:=hw_int i (by omega) (by omega)
theorem tot_dx:∀l:List T,(∀t∈l,t.ok)→tot (l.map T.dx)≤tot l+l.length*2
 | [],_=>by simp [tot]
 | t :: r,h=>by
  have h1:=tot_dx r fun x hx=>h x (List.mem_cons_of_mem _ hx)
  have h0:=h t List.mem_cons_self
  unfold T.ok at h0
  have h2:=hw_mul t.c ((t.i:Int):Rat)
  have h3:=hw_nat (i:=t.i) (by omega)
  simp only [List.map_cons,tot,List.length_cons,Nat.add_mul,T.dx]at *
  omega
theorem tot_dy:∀l:List T,(∀t∈l,t.ok)→tot (l.map T.dy)≤tot l+l.length*2
 | [],_=>by simp [tot]
 | t :: r,h=>by
  have h1:=tot_dy r fun x hx=>h x (List.mem_cons_of_mem _ hx)
  have h0:=h t List.mem_cons_self
  unfold T.ok at h0
  have h2:=hw_mul t.c ((t.j:Int):Rat)
  have h3:=hw_nat (i:=t.j) (by omega)
  simp only [List.map_cons,tot,List.length_cons,Nat.add_mul,T.dy]at *
  omega
theorem po_Scale (k:Rat) (l:List T) (v:Value) (w:World) (hS:PL w 0 v l) (hok:∀t∈l,t.ok) (ht:tot l*(hw k+2)≤100000000000):Calls Tryz.prog 17 #[v,fracV k] w (RetP w (gat ((gat l).map (T.scale k)))):=by
 have h0:tot l≤100000000000:=by have:=Nat.le_mul_of_pos_right (tot l) (show 0<hw k+2 by omega);omega
 refine PScale_raw v w fun W g hV hg hlt=>?_
 refine po_each l v W (hS.gr hg) hok h0 ⟨enters_of Tryz.func48 (by kernel_rfl) rfl,fun W2 hW2 t ht2=>?_⟩ (fun t ht2=>(nf_gat hok).ok t ht2) ?_
 ·have h1:=tot_mem ht2
  have h2:=tot_gat l
  have h3:hw k+2≤tot l*(hw k+2):=Nat.le_mul_of_pos_left _ (by omega)
  have e: #[tV t]++ #[Value.pointer (some ⟨g,0,none⟩)]= #[tV t,.pointer (some ⟨g,0,none⟩)]:=by simp
  rw [e]
  exact po_scale1 k t g W2 (hV.gr hW2 hlt) (by omega) (by omega)
 ·have h1:=tot_scale k (gat l)
  have h2:=tot_gat l
  have h3:=tot_len (gat l)
  have h4:(gat l).length*hw k≤tot l*hw k:=Nat.mul_le_mul_right _ (by omega)
  rw [Nat.mul_add]at ht
  omega
set_option maxRecDepth 20000 in
set_option maxHeartbeats 4000000 in
theorem Dx_raw {r:List T} (v:Value) (w:World) (hE:Calls Tryz.prog 44 #[v,.func (.func 45) #[] #[]] w (RetP w r)):Calls Tryz.prog 14 #[v] w (RetP w r):=by
 have hE:=Lh hE
 go_enter Tryz.func14,Tryz.ntmps14
 go_wp2_with fail
 refine hE.out.mono ?_
 rintro e w2 ⟨v2,rfl,hS3,hg3⟩
 have HS3:=Lh hS3
 have HG3:=Lh hg3
 clear hS3 hg3
 go_wp2
 go_ret
 exact⟨_,rfl,HS3.out,HG3.out⟩
set_option maxRecDepth 20000 in
set_option maxHeartbeats 4000000 in
theorem Dy_raw {r:List T} (v:Value) (w:World) (hE:Calls Tryz.prog 44 #[v,.func (.func 46) #[] #[]] w (RetP w r)):Calls Tryz.prog 15 #[v] w (RetP w r):=by
 have hE:=Lh hE
 go_enter Tryz.func15,Tryz.ntmps15
 go_wp2_with fail
 refine hE.out.mono ?_
 rintro e w2 ⟨v2,rfl,hS3,hg3⟩
 have HS3:=Lh hS3
 have HG3:=Lh hg3
 clear hS3 hg3
 go_wp2
 go_ret
 exact⟨_,rfl,HS3.out,HG3.out⟩
theorem po_Dx (l:List T) (v:Value) (w:World) (hS:PL w 0 v l) (hok:∀t∈l,t.ok) (ht:tot l*3≤100000000000):Calls Tryz.prog 14 #[v] w (RetP w (gat ((gat l).map T.dx))):=by
 have hg:=nf_gat hok
 have h2:=tot_gat l
 refine Dx_raw v w (po_each l v w hS hok (by omega) ⟨enters_of Tryz.func45 (by kernel_rfl) rfl,fun W2 _ t ht2=>?_⟩ (fun t ht2=>?_) ?_)
 ·rw [Array.append_empty]
  have h1:=tot_mem ht2
  exact po_dx1 t W2 (hg.ok t ht2) (by omega)
 ·have:=hg.ok t ht2
  unfold T.ok at *
  simp only [T.dx];omega
 ·have h1:=tot_dx (gat l) hg.ok
  have h3:=tot_len (gat l)
  omega
theorem po_Dy (l:List T) (v:Value) (w:World) (hS:PL w 0 v l) (hok:∀t∈l,t.ok) (ht:tot l*3≤100000000000):Calls Tryz.prog 15 #[v] w (RetP w (gat ((gat l).map T.dy))):=by
 have hg:=nf_gat hok
 have h2:=tot_gat l
 refine Dy_raw v w (po_each l v w hS hok (by omega) ⟨enters_of Tryz.func46 (by kernel_rfl) rfl,fun W2 _ t ht2=>?_⟩ (fun t ht2=>?_) ?_)
 ·rw [Array.append_empty]
  have h1:=tot_mem ht2
  exact po_dy1 t W2 (hg.ok t ht2) (by omega)
 ·have:=hg.ok t ht2
  unfold T.ok at *
  simp only [T.dy];omega
 ·have h1:=tot_dy (gat l) hg.ok
  have h3:=tot_len (gat l)
  omega
set_option maxRecDepth 20000 in
set_option maxHeartbeats 4000000 in
theorem po_Neg (l:List T) (v:Value) (w:World) (hS:PL w 0 v l) (hok:∀t∈l,t.ok) (ht:tot l*4≤100000000000):Calls Tryz.prog 160 #[v] w (RetP w (gat ((gat l).map (T.scale (((-1:Int)):Rat))))):=by
 have hI:=Lh (fun w=>fr_Int (-1) w (by omega) (by omega))
 have hk:hw (((-1:Int)):Rat)≤2:=hw_int (-1) (by omega) (by omega)
 have hE:=Lh (fun W (h:Gr w.heap.size w W)=>po_Scale (((-1:Int)):Rat) l v W (hS.gr h) hok (Nat.le_trans (Nat.mul_le_mul_left _ (by omega)) ht))
 clear hS hok ht hk
 generalize gat ((gat l).map (T.scale (((-1:Int)):Rat)))=r at *
 generalize (((-1:Int)):Rat)=q at *
 go_enter Tryz.func160,Tryz.ntmps160
 go_wp2_with fail
 (refine rtu (hI.out _) fun w1 hsz1 hl1 hc1 hf1 HG1=>?_;(try simp at hsz1))
 go_wp2_with fail
 refine(hE.out _ HG1.out).mono ?_
 rintro e w2 ⟨v2,rfl,hS3,hg3⟩
 have HS3:=Lh hS3
 have HG3:=Lh hg3
 clear hS3 hg3
 go_wp2
 go_ret
 exact⟨_,rfl,HS3.out.mono (by omega),HG1.out.trans (HG3.out.mono (by omega))⟩
set_option maxRecDepth 20000 in
set_option maxHeartbeats 4000000 in
theorem PSub_raw {r:List T} {n:List T} (v u:Value) (w:World) (hN:Calls Tryz.prog 160 #[u] w (RetP w n)) (hA:∀W u2,Gr w.heap.size w W→PL W 0 u2 n→Calls Tryz.prog 13 #[v,u2] W (RetP W r)):Calls Tryz.prog 114 #[v,u] w (RetP w r):=by
 have hN:=Lh hN
 have hA:=Lh hA
 go_enter Tryz.func114,Tryz.ntmps114
 go_wp2_with fail
 refine hN.out.mono ?_
 rintro e w2 ⟨v2,rfl,hS2,hg2⟩
 have HS2:=Lh hS2
 have HG2:=Lh hg2
 have hsz2:=hg2.size
 clear hS2 hg2
 go_wp2_with fail
 refine(hA.out _ _ HG2.out (HS2.out.mono (Nat.zero_le _))).mono ?_
 rintro e w3 ⟨v3,rfl,hS3,hg3⟩
 have HS3:=Lh hS3
 have HG3:=Lh hg3
 clear hS3 hg3
 go_wp2
 go_ret
 exact⟨_,rfl,HS3.out.mono (by omega),HG2.out.trans (HG3.out.mono (by omega))⟩
def negL (l:List T):List T:=gat ((gat l).map (T.scale (((-1:Int)):Rat)))
def addL (l m:List T):List T:=gat (gat l++gat m)
def subL (l m:List T):List T:=addL l (negL m)
def scaleL (k:Rat) (l:List T):List T:=gat ((gat l).map (T.scale k))
def dxL (l:List T):List T:=gat ((gat l).map T.dx)
def dyL (l:List T):List T:=gat ((gat l).map T.dy)
theorem tot_negL (l:List T):tot (negL l)≤tot l*3:=by
 unfold negL
 have h1:=tot_gat ((gat l).map (T.scale (((-1:Int)):Rat)))
 have h2:=tot_scale (((-1:Int)):Rat) (gat l)
 have h3:=tot_gat l
 have h4:=tot_len (gat l)
 have hk:hw (((-1:Int)):Rat)≤2:=hw_int (-1) (by omega) (by omega)
 have h5:(gat l).length*hw (((-1:Int)):Rat)≤(gat l).length*2:=Nat.mul_le_mul_left _ hk
 omega
theorem ok_scale {k:Rat} {l:List T} (h:∀t∈l,t.ok):∀t∈(gat l).map (T.scale k),t.ok:=by
 intro t ht
 obtain ⟨x,hx,rfl⟩:=List.mem_map.1 ht
 exact(nf_gat h).ok x hx
theorem po_Sub (l m:List T) (v u:Value) (w:World) (hS:PL w 0 v l) (hU:PL w 0 u m) (hok:∀t∈l,t.ok) (hok2:∀t∈m,t.ok) (ht:tot l+tot m*4≤100000000000):Calls Tryz.prog 114 #[v,u] w (RetP w (subL l m)):=by
 refine PSub_raw (n:=negL m) v u w (po_Neg m u w hU hok2 (by omega)) fun W u2 hg hu=>?_
 have:=tot_negL m
 exact po_Add l (negL m) v u2 W (hS.gr hg) hu hok (nf_gat (ok_scale hok2)).ok (by omega)
end Go.Proofs.YtfgmdhjmgdccdaaGreat
namespace Go.Proofs.YtfgmdhjmgdccdaaGreat
open Go.RowKit Gus Go.Maps
theorem tC_inj {x y:T}:(lowN (sz x.c.num)=lowN (sz y.c.num)∧bigS (sz x.c.num)=bigS (sz y.c.num))∧ng x.c.num=ng y.c.num∧lowN (fm x.c)=lowN (fm y.c)∧bigS (fm x.c)=bigS (fm y.c)↔x.c=y.c:=by
 rw [nat_same,nat_same]
 constructor
 ·rintro ⟨h1,h2,h3⟩
  have e1:x.c.num=y.c.num:=by rw [←sgd_self x.c.num,←sgd_self y.c.num,h1,h2]
  have e2:x.c.den=y.c.den:=by rw [den_fm,den_fm,h3]
  exact Rat.ext e1 e2
 ·intro h;rw [h];exact⟨rfl,rfl,rfl⟩
set_option maxRecDepth 20000 in
set_option maxHeartbeats 4000000 in
theorem neq_Term (x y:T) (W:World):(binOp .neq 111 (tV x) (tV y)).run Tryz.prog W= .ok (.bool (!decide (x=y))) W:=by
 have h:= @tC_inj x y
 go_simp
 by_cases e:x=y
 ·subst e;simp
 ·rw [decide_eq_false e]
  repeat' split
  all_goals first
   | rfl
   | (exfalso
      rename_i h1 h2 h3 h4 h5 h6 h7
      have h8:=h.1 ⟨⟨by omega,bytes_toList_inj.1 h4⟩,h5,by omega,bytes_toList_inj.1 h7⟩
      apply e
      cases x;cases y
      simp only at h1 h2 h8
      simp only [T.mk.injEq]
      exact⟨by omega,by omega,h8⟩)
set_option maxRecDepth 20000 in
set_option maxHeartbeats 4000000 in
theorem equal_Term (l m:List T) (v u:Value) (w:World) (hS:PL w 0 v l) (hU:PL w 0 u m):Calls Tryz.prog 47 #[v,u] w (Ret w (.bool (decide (l=m)))):=by
 obtain ⟨a,ca,rfl⟩:=hS.at
 obtain ⟨b,cb,rfl⟩:=hU.at
 have hl:=hS.len
 have hl2:(l.length:Int)≤9223372036854775807:=by simp only [maxLen]at hl;omega
 have hm:=hU.len
 have hm2:(m.length:Int)≤9223372036854775807:=by simp only [maxLen]at hm;omega
 have hneq:=neq_Term
 have HS:=Lh hS
 have HU:=Lh hU
 clear hS hU hl hm
 by_cases hlm:l.length=m.length
 ·have HLM:=Lh hlm
  have hml:(m.length:Int)=(l.length:Int):=by omega
  rw [←hlm]
  clear hlm hml hm2
  go_enter Tryz.func47,Tryz.ntmps47
  go_wp2
  go_loopw [13] (fun s wr=> ∃n:Nat,s= .int .i64 n∧n≤l.length∧Hid (l.take n=m.take n)∧Gr w.heap.size w wr) (fun s _=>l.length - (intOf s).toNat)
  case atStart=>exact⟨0,rfl,Nat.zero_le _,rfl,Gr.refl _ _⟩
  case round=>
   obtain ⟨n,rfl,hn,HE,hgr⟩:=hrel
   by_cases hlt:n<l.length
   ·obtain ⟨t,ht⟩:∃t,l[n]=t:=⟨_,rfl⟩
    have hltm:n<m.length:=HLM.out ▸ hlt
    obtain ⟨s,hs⟩:∃s,m[n]=s:=⟨_,rfl⟩
    obtain ⟨g,cap',e1,_,_,_,hsh,hR⟩:=(HS.out.gr hgr).block (by intro e;rw [e]at hlt;simp at hlt)
    injection e1 with e1 _ e2
    subst e1 e2
    obtain ⟨g',cap'',e1,_,_,_,hsh',hR'⟩:=(HU.out.gr hgr).block (by intro e;rw [e]at hltm;simp at hltm)
    injection e1 with e1 _ e2
    subst e1 e2
    obtain ⟨v0,v1,v2,v3,v4,v5,v6⟩:=hR.term hlt ht
    obtain ⟨u0,u1,u2,u3,u4,u5,u6⟩:=hR'.term hltm hs
    have HT:=Lh (And.intro ht hs)
    have HG:=Lh hgr
    have HM:=Lh hltm
    clear hgr hR hsh hR' hsh' ht hs
    by_cases hts:t=s
    ·have HQ:=Lh hts
     have hq:decide (t=s)=true:=decide_eq_true hts
     clear hts
     have hne:(binOp .neq 111 (tV t) (tV s)).run Tryz.prog=fun W=> .ok (.bool false) W:=funext fun W=>by rw [neq_Term,hq];rfl
     clear hq hneq
     go_wp2
     go_region
     go_wp2
     go_roundw
     case rel=>
      refine⟨n+1,by go_num,by omega,?_,by exact gcc HG gzz⟩
      show _=_
      rw [List.take_succ_eq_append_getElem hlt,List.take_succ_eq_append_getElem hltm,HE.out,HT.out.1,HT.out.2,HQ.out]
     case measure=>simp [intOf];omega
    ·have HQ:=Lh hts
     have hq:decide (t=s)=false:=decide_eq_false hts
     clear hts
     have hne:(binOp .neq 111 (tV t) (tV s)).run Tryz.prog=fun W=> .ok (.bool true) W:=funext fun W=>by rw [neq_Term,hq];rfl
     clear hq hneq
     go_wp2
     go_region
     go_wp2
     go_ret
     have e:decide (l=m)=false:=decide_eq_false fun e=>HQ.out (by
      have h1:=HT.out.1;have h2:=HT.out.2
      subst e
      rw [←h1,←h2])
     exact⟨by rw [e];rfl,by exact gcc HG gzz⟩
   ·obtain rfl:n=l.length:=by omega
    have HG:=Lh hgr
    clear hgr
    have e:l=m:=by have:=HE.out;rwa [List.take_length,HLM.out,List.take_length]at this
    have HQ:=Lh (decide_eq_true e)
    clear e
    go_wp2
    go_ret
    exact⟨by rw [HQ.out];rfl,HG.out⟩
 ·have hb:((l.length:Int) != (m.length:Int))=true:=by simp;omega
  have e:decide (l=m)=false:=decide_eq_false fun e=>hlm (by rw [e])
  rw [e]
  clear hlm e
  go_enter Tryz.func47,Tryz.ntmps47
  go_wp2
  go_ret
  exact⟨rfl,Gr.refl _ _⟩
set_option maxRecDepth 20000 in
set_option maxHeartbeats 4000000 in
theorem po_Same (l m:List T) (v u:Value) (w:World) (hS:PL w 0 v l) (hU:PL w 0 u m) (hok:∀t∈l,t.ok) (hok2:∀t∈m,t.ok) (ht:tot l≤100000000000) (ht2:tot m≤100000000000):Calls Tryz.prog 16 #[v,u] w (Ret w (.bool (decide (gat l=gat m)))):=by
 have hB1:=Lh (po_brought l v w hS hok ht)
 have HU:=Lh (And.intro hU (And.intro hok2 ht2))
 clear hS hU hok hok2 ht ht2
 go_enter Tryz.func16,Tryz.ntmps16
 go_wp2_with fail
 refine hB1.out.mono ?_
 rintro e w2 ⟨v2,rfl,hS2,hg2⟩
 have HB2:=Lh (po_brought m u w2 (HU.out.1.gr hg2) HU.out.2.1 HU.out.2.2)
 have HS2:=Lh hS2
 have HG2:=Lh hg2
 have hsz2:=hg2.size
 clear hS2 hg2
 go_wp2_with fail
 refine HB2.out.mono ?_
 rintro e w3 ⟨v3,rfl,hS3,hg3⟩
 have HE:=Lh (equal_Term (gat l) (gat m) v2 v3 w3 ((HS2.out.gr hg3).mono (Nat.zero_le _)) (hS3.mono (Nat.zero_le _)))
 have HG3:=Lh hg3
 clear hS3 hg3
 generalize decide (gat l=gat m)=r at *
 go_wp2_with fail
 (refine rtu (HE.out) fun w4 hsz4 hl4 hc4 hf4 HG4=>?_;(try simp at hsz4))
 go_wp2
 go_ret
 exact⟨rfl,(HG2.out.trans (HG3.out.mono hsz2)).trans (HG4.out.mono (by have:=HG3.out.size;omega))⟩
def xL:List T:= [⟨1,0,((1:Int):Rat)⟩]
def yL:List T:= [⟨0,1,((1:Int):Rat)⟩]
set_option maxRecDepth 20000 in
set_option maxHeartbeats 4000000 in
theorem X_raw (q:Rat) (w:World) (hI:∀w,Calls Tryz.prog 28 #[.int .i64 1] w (Ret w (fracV q))):Calls Tryz.prog 24 #[] w (RetP w [⟨1,0,q⟩]):=by
 have hI:=Lh hI
 go_enter Tryz.func24,Tryz.ntmps24
 go_wp2_with fail
 (refine rtu (hI.out _) fun w1 hsz1 hl1 hc1 hf1 HG1=>?_;(try simp at hsz1))
 go_wp2
 go_ret
 exact⟨_,rfl,SL.new' (l:= [⟨1,0,q⟩]) tC_len _ rfl rfl (by omega) (by simp [maxLen]) rfl,by exact gcc HG1 gzz⟩
set_option maxRecDepth 20000 in
set_option maxHeartbeats 4000000 in
theorem Y_raw (q:Rat) (w:World) (hI:∀w,Calls Tryz.prog 28 #[.int .i64 1] w (Ret w (fracV q))):Calls Tryz.prog 25 #[] w (RetP w [⟨0,1,q⟩]):=by
 have hI:=Lh hI
 go_enter Tryz.func25,Tryz.ntmps25
 go_wp2_with fail
 (refine rtu (hI.out _) fun w1 hsz1 hl1 hc1 hf1 HG1=>?_;(try simp at hsz1))
 go_wp2
 go_ret
 exact⟨_,rfl,SL.new' (l:= [⟨0,1,q⟩]) tC_len _ rfl rfl (by omega) (by simp [maxLen]) rfl,by exact gcc HG1 gzz⟩
theorem po_X (w:World):Calls Tryz.prog 24 #[] w (RetP w xL):=X_raw _ w fun w=>fr_Int 1 w (by omega) (by omega)
theorem po_Y (w:World):Calls Tryz.prog 25 #[] w (RetP w yL):=Y_raw _ w fun w=>fr_Int 1 w (by omega) (by omega)
def degL (l:List T):Int:=match l.getLast? with|some t=>((t.i+t.j:Nat):Int)|none=> -1
set_option maxRecDepth 20000 in
set_option maxHeartbeats 4000000 in
theorem po_Degree (l:List T) (v:Value) (w:World) (hS:PL w 0 v l) (hok:∀t∈l,t.ok) (ht:tot l≤100000000000):Calls Tryz.prog 147 #[v] w (Ret w (.int .i64 (degL (gat l)))):=by
 have hB1:=Lh (po_brought l v w hS hok ht)
 have hokg:=(nf_gat hok).ok
 generalize gat l=gl at *
 clear hS hok ht
 go_enter Tryz.func147,Tryz.ntmps147
 go_wp2_with fail
 refine hB1.out.mono ?_
 rintro e w2 ⟨v2,rfl,hS2,hg2⟩
 have HG2:=Lh hg2
 have hsz2:=hg2.size
 by_cases hne:gl= []
 ·subst hne
  obtain ⟨a,ca,rfl⟩:=hS2.at
  clear hS2 hg2 hokg
  go_wp2
  go_ret
  exact⟨rfl,HG2.out⟩
 ·obtain ⟨g,cap,rfl,_,_,_,hsh,hR⟩:=hS2.block hne
  have hlen:0<gl.length:=List.length_pos_iff.2 hne
  have hl:=hS2.len
  obtain ⟨t,ht⟩:∃t,gl[gl.length - 1]'(by omega)=t:=⟨_,rfl⟩
  obtain ⟨v0,v1,v2,v3,v4,v5,v6⟩:=hR.term (by omega) ht
  have hto:=hokg t (ht ▸ List.getElem_mem _)
  unfold T.ok at hto
  have e:degL gl=(t.i:Int)+(t.j:Int):=by
   unfold degL
   rw [List.getLast?_eq_getElem?,List.getElem?_eq_getElem (by omega),ht]
   simp
  have HE:=Lh e
  obtain ⟨n,hn⟩:∃n,n=gl.length - 1:=⟨_,rfl⟩
  rw [←hn]at v0 v1 v2 v3 v4 v5 v6
  clear hS2 hg2 hokg hR hsh e ht hne
  generalize gl.length=L at *
  have hnb:(L:Int)≤9223372036854775807:=by simp only [maxLen]at hl;omega
  have hwr:IntKind.i64.wrap ((t.i:Int)+(t.j:Int))=(t.i:Int)+(t.j:Int):=by rw [IntKind.wrap_i64];omega
  have hn1:(L:Int) - 1=(n:Int):=by omega
  have hn2:(n:Int)<(L:Int):=by omega
  have hn3:IntKind.i64.wrap (n:Int)=(n:Int):=by rw [IntKind.wrap_i64];omega
  have hz:((L:Int) == 0)=false:=by simp;omega
  have hz2:¬L=0:=by omega
  clear hl hlen hn
  go_wp2
  go_ret
  exact⟨by rw [HE.out];rfl,by exact gcc HG2 gzz⟩
end Go.Proofs.YtfgmdhjmgdccdaaGreat
namespace Go.Proofs.YtfgmdhjmgdccdaaGreat
open Go.RowKit Gus Go.Maps
def mulT (s t:T):T:=⟨s.i+t.i,s.j+t.j,s.c*t.c⟩
def prods (x y:List T):List T:=x.flatMap fun s=>y.map (mulT s)
def mulL (a b:List T):List T:=gat (prods (gat a) (gat b))
def powL (x:List T):Nat→List T
 | 0=>constT 1
 | n+1=>mulL (powL x n) x
def shiftA (x y:List T) (l:List T):List T:=l.foldl (fun acc t=>addL acc (scaleL t.c (mulL (powL x t.i) (powL y t.j)))) []
def linL (a b c:Rat):List T:=gat [⟨1,0,a⟩,⟨0,1,b⟩,⟨0,0,c⟩]
def shiftL (p:List T) (ax bx cx ay by_ cy:Rat):List T:=shiftA (linL ax bx cx) (linL ay by_ cy) (gat p)
theorem prods_succ {x y:List T} {n:Nat} (h:n<x.length) {s:T} (hs:x[n]=s):prods (x.take (n+1)) y=prods (x.take n) y++y.map (mulT s):=by
 unfold prods
 rw [List.take_add_one,List.getElem?_eq_getElem h,hs]
 simp
theorem prods_len (x y:List T):(prods x y).length=x.length*y.length:=by
 unfold prods
 induction x with
 | nil=>simp
 | cons s r ih=>simp only [List.flatMap_cons,List.length_append,List.length_map,List.length_cons,ih,Nat.add_mul];omega
theorem tot_map_mul (s:T):∀y:List T,tot (y.map (mulT s))≤(hw s.c+1)*tot y
 | []=>by simp [tot]
 | t :: r=>by
  have h:=tot_map_mul s r
  have h2:=hw_mul s.c t.c
  simp only [List.map_cons,tot,mulT]at h ⊢
  have e:(hw s.c+1)*(hw t.c+1+tot r)=(hw s.c+1)*tot r+hw s.c*hw t.c+hw s.c+hw t.c+1:=by grind
  have e2:(hw s.c+1)*tot (t :: r)=(hw s.c+1)*(hw t.c+1+tot r):=rfl
  simp only [tot]at e2
  first|(rw [e2,e];omega)|omega
theorem tot_prods (y:List T):∀x:List T,tot (prods x y)≤tot x*tot y
 | []=>by simp [prods,tot]
 | s :: r=>by
  have h:=tot_prods y r
  have h1:=tot_map_mul s y
  have e:prods (s :: r) y=y.map (mulT s)++prods r y:=rfl
  rw [e,tot_append]
  have e2:tot (s :: r)*tot y=(hw s.c+1)*tot y+tot r*tot y:=by
   show(hw s.c+1+tot r)*tot y=_
   rw [Nat.add_mul]
  omega
theorem prods_ok {x y:List T} (h:∀s∈x,∀t∈y,s.i+s.j+(t.i+t.j)≤12):∀t∈prods x y,t.ok:=by
 intro t ht
 obtain ⟨s,hs,h2⟩:=List.mem_flatMap.1 ht
 obtain ⟨u,hu,rfl⟩:=List.mem_map.1 h2
 have:=h s hs u hu
 show s.i+u.i+(s.j+u.j)≤12
 omega
theorem degL_le {x:List T} (hx:x≠ []):∃t∈x,degL x=((t.i+t.j:Nat):Int):=by
 unfold degL
 rw [List.getLast?_eq_some_getLast hx]
 exact⟨_,List.getLast_mem hx,rfl⟩
end Go.Proofs.YtfgmdhjmgdccdaaGreat
