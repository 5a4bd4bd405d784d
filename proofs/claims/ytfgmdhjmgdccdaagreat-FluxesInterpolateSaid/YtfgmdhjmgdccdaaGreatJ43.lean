/-
  Part 43 of the proof: Rat TriI.
-/
import Derived.Test.YtfgmdhjmgdccdaaGreatJ34
import Derived.Test.YtfgmdhjmgdccdaaGreatJ40
set_option linter.unusedSimpArgs false
set_option linter.unusedVariables false
set_option maxHeartbeats 8000000
namespace Go.Proofs.YtfgmdhjmgdccdaaGreat
open Go.RowKit Gus Go.Maps
section
variable {P:Program} {ops:Array Oper} {Q:Exit→Act→World→Prop} {md:Region.Mode} {S:World→Prop} {st fuel:Nat} {listed:Array Bool} {a:Act} {w:World} {oi oj:Oper}
theorem rdLE (i j:Nat) (h:∀K':Act→World→Prop,Shut (∀a w,S w→(S w→AnyL P md ops Q S st fuel (listed.setIfInBounds i true) a w)→K' a w)→if Region.wanted oi (yielded ops a.tmps)=true then Oper.wp P oi a w K' Q else K' (a.put oi.dst undef) w)
  (h2:∀K':Act→World→Prop,Shut (∀a w,AnyL P md ops Q S st fuel (listed.setIfInBounds j true) a w→K' a w)→if Region.wanted oj (yielded ops a.tmps)=true then Oper.wp P oj a w K' Q else K' (a.put oj.dst undef) w)
  (hl:(listed.setIfInBounds j true).getD st false=true:=by kernel_rfl) (hr:Region.ready md ops listed= [i,j]:=by kernel_rfl) (ho:ops[i]? =some oi:=by rfl) (hp:ops[j]? =some oj:=by rfl):AnyL P md ops Q S st (fuel+1) listed a w:=
 ⟨fun h0=>(by rw [hr]at h0;cases h0),fun k hk=>by
  rw [hr]at hk
  rcases List.mem_cons.1 hk with rfl|hk
  ·exact wpOp_step ho (fun K' hK=>h K' (fun a w hS hW=>hK a w ⟨fun _=>hS,hW hS⟩))
  ·rw [List.mem_singleton]at hk
   subst hk
   exact wpOp_step hp (fun K' hK=>h2 K' (fun a w hW=>hK a w ⟨fun h0=>(by rw [hl]at h0;cases h0),hW⟩))⟩
end
abbrev iCn (n:Nat):List Value:= [.int .i64 (n:Int)]
def prodF (q:Rat):Nat→Rat
 | 0=>q
 | t+1=>prodF q t*(((t+1:Nat):Int):Rat)
def divF (q:Rat):Nat→Rat
 | 0=>q
 | t+1=>divF q t / (((t+1:Nat):Int):Rat)
def prodL (ps:List Nat):Rat:=ps.foldl prodF 1
def ratR (n:Nat) (ps:List Nat):Rat:=divF (prodL ps) n
theorem VB.fars5 {w:World} {g b:Nat} {cs:List Value} (h:VB w g cs) (hne:b≠g) (x y z u v:Value):VB (((((w.setCell ⟨b,0,none⟩ x).setCell ⟨b,1,none⟩ y).setCell ⟨b,2,none⟩ z).setCell ⟨b,3,none⟩ u).setCell ⟨b,4,none⟩ v) g cs:=((((h.far hne _).far hne _).far hne _).far hne _).far hne _
theorem hw_natR (t:Nat) (h:t≤1000):hw (((t:Nat):Int):Rat)≤2:=hw_int t (by omega) (by omega)
theorem hw_prodF (q:Rat):∀t,t≤20→hw (prodF q t)≤hw q+2*t
 | 0,_=>by show hw q≤_;omega
 | t+1,h=>by
  have h1:=hw_prodF q t (by omega)
  have h2:=hw_mul (prodF q t) (((t+1:Nat):Int):Rat)
  have h3:=hw_natR (t+1) (by omega)
  show hw (prodF q t*_)≤_
  omega
theorem num_nat (t:Nat):((((t+1:Nat):Int):Rat)).num≠0:=by
 show((t+1:Nat):Int)≠0
 omega
theorem hw_divF (q:Rat):∀t,t≤20→hw (divF q t)≤hw q+2*t
 | 0,_=>by show hw q≤_;omega
 | t+1,h=>by
  have h1:=hw_divF q t (by omega)
  have h3:=hw_natR (t+1) (by omega)
  have h4:=hw_inv _ (num_nat t)
  show hw (divF q t / _)≤_
  rw [Rat.div_def]
  have h2:=hw_mul (divF q t) (((t+1:Nat):Int):Rat)⁻¹
  omega
theorem hw_prodL:∀(ps:List Nat),ps.length≤4→(∀p∈ps,p≤20)→∀q,hw (ps.foldl prodF q)≤hw q+40*ps.length
 | [],_,_,q=>by simp
 | p :: r,hl,h,q=>by
  have h1:=hw_prodL r (by simp at hl;omega) (fun x hx=>h x (by simp [hx])) (prodF q p)
  have h2:=hw_prodF q p (h p (by simp))
  have h3:=h p (by simp)
  simp only [List.foldl_cons,List.length_cons]
  omega
set_option maxRecDepth 20000 in
theorem it_ratio (n:Nat) (ps:List Nat) (gs cs:Nat) (w:World) (hn:n≤20) (hl:ps.length≤4) (hp:∀p∈ps,p≤20) (hS:SR iCn 1 3 w 0 (.slice (some ⟨gs,0,none⟩) ps.length cs) ps):Calls Tryz.prog 62 #[.int .i64 (n:Int),.slice (some ⟨gs,0,none⟩) ps.length cs] w (Ret w (fracV (ratR n ps))):=by
 have HS:=Lh hS
 have HP:=Lh hp
 have HLP:=Lh (hw_prodL)
 clear hS hp
 have HI1:=Lh (fun W=>fr_Int 1 W (by omega) (by omega))
 obtain ⟨one,hone⟩:∃x:Rat,((1:Int):Rat)=x:=⟨_,rfl⟩
 rw [hone]at HI1
 have HO:=Lh (show one=prodL []from by rw [←hone];rfl)
 clear hone
 have hgs:=(SR.own_lt HS.out (g:=gs) rfl).2
 go_enter Tryz.func62,Tryz.ntmps62
 go_wp2_with fail
 (refine rtu (HI1.out _) fun w1 hsz1 hl1 hc1 hf1 HG1=>?_;(try simp at hsz1))
 go_wp2_with fail
 have HV1:=Lh (show VB (w1.alloc (.cells #[vA one,vB one,vC one,vD one,vE one] 59)) w1.heap.size [vA one,vB one,vC one,vD one,vE one]from by exact vbb)
 have HZ1:=Lh (show VB (w1.alloc (.cells #[vA one,vB one,vC one,vD one,vE one] 59)) w.heap.size [zU,zS,.bool false,zU,zS]from by exact vbc HG1 vbb)
 have HG:=Lh (show Gr w.heap.size w (w1.alloc (.cells #[vA one,vB one,vC one,vD one,vE one] 59))from by exact gcc HG1 gzz)
 have hz1:(w1.alloc (.cells #[vA one,vB one,vC one,vD one,vE one] 59)).heap.size=w1.heap.size+1:=by simp
 generalize (w1.alloc (.cells #[vA one,vB one,vC one,vD one,vE one] 59))=w2 at *
 obtain ⟨ob,hob⟩:∃q,w1.heap.size=q:=⟨_,rfl⟩
 rw [hob]at HV1 hz1 ⊢
 have h0b:w.heap.size<ob:=by omega
 have hb2:ob<w2.heap.size:=by omega
 clear hz1 hob hc1 hf1 HG1
 go_loopw [13] (fun s wr=> ∃(k:Nat) (q:Rat),s= .int .i64 k∧k≤ps.length∧Hid (q=prodL (ps.take k))∧Hid (VB wr ob [vA q,vB q,vC q,vD q,vE q])∧Hid (VB wr w.heap.size [zU,zS,.bool false,zU,zS])∧Hid (Gr w.heap.size w wr)) (fun s _=>ps.length - (intOf s).toNat)
 case atStart=>exact⟨0,_,rfl,Nat.zero_le _,HO,HV1,HZ1,HG⟩
 case round=>
  clear HV1 HZ1 HG hb2
  obtain ⟨k,q,rfl,hk,HQ,HV,HZ,HG⟩:=hrel
  have hbl:=HV.out.lt
  have hzl:=HZ.out.lt
  by_cases hlt:k<ps.length
  ·have q0:(k:Int)<(ps.length:Int):=by omega
   have hk1:IntKind.i64.wrap ((k:Int)+1)=(k:Int)+1:=wrap64_id (by omega) (by omega)
   obtain ⟨p,hp⟩:∃p,ps[k]=p:=⟨_,rfl⟩
   have hp20:p≤20:=HP.out p (hp ▸ List.getElem_mem hlt)
   obtain ⟨g',c',e1,_,_,_,hsh,hR⟩:=HS.out.block (by intro e9;rw [e9]at hlt;simp at hlt)
   cases e1
   have u0:=(hR.gr HG.out hgs) k hlt 0 (.int .i64 (p:Int)) (by rw [hp];rfl)
   simp only [Nat.mul_one,Nat.add_zero]at u0
   clear hR hsh
   have HNX:=Lh (show prodF q p=prodL (ps.take (k+1))from by rw [List.take_add_one,List.getElem?_eq_getElem hlt,hp];unfold prodL;rw [List.foldl_append,HQ.out];rfl)
   have hwq:hw q≤200:=by rw [HQ.out];unfold prodL;have:=HLP.out (ps.take k) (by simp;omega) (fun x hx=>HP.out x (List.mem_of_mem_take hx)) 1;have h2:hw (1:Rat)≤2:=hw_one;simp at this;omega
   go_wp2_with fail
   clear u0
   go_loopw [18] (fun s wr=> ∃(t:Nat) (y:Rat),s= .int .i64 t∧t≤p∧Hid (y=prodF q t)∧Hid (VB wr ob [vA y,vB y,vC y,vD y,vE y])∧Hid (VB wr w.heap.size [zU,zS,.bool false,zU,zS])∧Hid (Gr w.heap.size w wr)) (fun s _=>p - (intOf s).toNat)
   case atStart=>exact⟨0,_,rfl,Nat.zero_le _,Lh rfl,HV,HZ,HG⟩
   case round=>
    clear HV HZ HG
    obtain ⟨t,y,rfl,ht,HY,HV,HZ,HG⟩:=hrel
    have hbl:=HV.out.lt
    have hzl:=HZ.out.lt
    by_cases htp:t<p
    ·have q1:(t:Int)<(p:Int):=by omega
     have ht1:IntKind.i64.wrap ((t:Int)+1)=(t:Int)+1:=wrap64_id (by omega) (by omega)
     obtain ⟨t1,hte⟩:∃x,t+1=x:=⟨_,rfl⟩
     have ht2:(t:Int)+1=(t1:Int):=by omega
     rw [ht2]at ht1
     have hwy:hw y≤300:=by rw [HY.out];have:=hw_prodF q t (by omega);omega
     have G1:=Lh (fun W=>fr_Int (t1:Int) W (by omega) (by omega))
     have hwt:=hw_natR t1 (by omega)
     have G2:=Lh (fun W=>fr_Mul y ((t1:Int):Rat) W (by omega) (by omega))
     obtain ⟨y1,hy1⟩:∃x,y*((t1:Int):Rat)=x:=⟨_,rfl⟩
     obtain ⟨tr,htr⟩:∃x,((t1:Int):Rat)=x:=⟨_,rfl⟩
     rw [hy1]at G2
     rw [htr]at G1 G2
     have HNY:=Lh (show y1=prodF q (t+1)from by rw [←hy1,HY.out,←hte];rfl)
     clear hy1 htr hwt hwy
     obtain ⟨p0,p1,p2,p3,p4,-⟩:=HV.out.five
     go_upto_region 8 with fail
     refine wp_region_L 5 (S:=(fun w'=>w'.cell? ⟨ob,0,none⟩=some (vA y)∧w'.cell? ⟨ob,1,none⟩=some (vB y)∧w'.cell? ⟨ob,2,none⟩=some (vC y)∧w'.cell? ⟨ob,3,none⟩=some (vD y)∧w'.cell? ⟨ob,4,none⟩=some (vE y))) (by kernel_rfl) ?_ (fun hHeld=>?_)
     ·simp [go_sem, *]
     refine tkL 0 (some 21) (fracV y) ?_
     try simp only [pS]
     refine tkL 1 (some 22) (.int .i64 (t:Int)) ?_
     try simp only [pS]
     refine tkL 2 (some 23) (.int .i64 (t1:Int)) ?_
     try simp only [pS]
     refine rdL 3 (fun K hK=>?_)
     go_simp
     (refine rtu (G1.out _) fun w21 hsz21 hl21 hc21 hf21 HG21=>?_;(try simp at hsz21))
     refine kO hK fun hQ1=>?_
     clear hK K hHeld
     refine rdL 4 (fun K hK=>?_)
     go_simp
     (refine rtu (G2.out _) fun w22 hsz22 hl22 hc22 hf22 HG22=>?_;(try simp at hsz22))
     refine kO hK fun hQ2=>?_
     clear hK K hQ1
     have HV3:=Lh (show VB w22 ob [vA y,vB y,vC y,vD y,vE y]from by exact vbc HG22 (vbc HG21 HV.out))
     have HZ3:=Lh (show VB w22 w.heap.size [zU,zS,.bool false,zU,zS]from by exact vbc HG22 (vbc HG21 HZ.out))
     obtain ⟨r0,r1,r2,r3,r4,-⟩:=HV3.out.five
     have e0:=HV3.out.f 0 (by simp)
     have e1:=HV3.out.f 1 (by simp)
     have e2:=HV3.out.f 2 (by simp)
     have e3:=HV3.out.f 3 (by simp)
     have e4:=HV3.out.f 4 (by simp)
     have HG9:=Lh (show Gr w.heap.size w w22 from by exact gcc HG22 (gcc HG21 (gcc HG gzz)))
     have hs22:=HG22.out.size
     have hs21:=HG21.out.size
     clear hc21 hf21 hc22 hf22 p0 p1 p2 p3 p4
     clear hQ2
     refine rdE 5 (fun K hK=>?_)
     go_simp
     (try dsimp only)
     refine hK.out _ _ ?_
     clear hK K
     try simp only [pS]
     refine AnyL.done (by kernel_rfl) ?_ _
     clear r0 r1 r2 r3 r4 e0 e1 e2 e3 e4
     go_wp2
     go_roundw
     case rel=>exact⟨t+1,y1,by go_num,by omega,HNY,Lh HV3.out.put5,Lh (HZ3.out.fars5 (by omega) _ _ _ _ _),Lh (by exact gcc HG9 gzz)⟩
     case measure=>simp [intOf];omega
    ·have htt:t=p:=by omega
     subst htt
     have HYQ:=Lh (HY.out.trans HNX.out)
     go_wp2
     go_roundw
     case rel=>exact⟨k+1,y,by go_num,by omega,HYQ,HV,HZ,HG⟩
     case measure=>simp [intOf];omega
  ·have hkk:k=ps.length:=by omega
   subst hkk
   have HQ2:=HQ.out
   rw [List.take_length]at HQ2
   have hwq:hw q≤200:=by rw [HQ2];unfold prodL;have:=HLP.out ps hl HP.out 1;have h2:hw (1:Rat)≤2:=hw_one;omega
   replace HQ2:=Lh HQ2
   clear HQ
   go_wp2_with fail
   go_loopw [29] (fun s wr=> ∃(t:Nat) (y:Rat),s= .int .i64 t∧t≤n∧Hid (y=divF q t)∧Hid (VB wr ob [vA y,vB y,vC y,vD y,vE y])∧Hid (VB wr w.heap.size [zU,zS,.bool false,zU,zS])∧Hid (Gr w.heap.size w wr)) (fun s _=>n - (intOf s).toNat)
   case atStart=>exact⟨0,_,rfl,Nat.zero_le _,Lh rfl,HV,HZ,HG⟩
   case round=>
    clear HV HZ HG
    obtain ⟨t,y,rfl,ht,HY,HV,HZ,HG⟩:=hrel
    have hbl:=HV.out.lt
    have hzl:=HZ.out.lt
    by_cases htp:t<n
    ·have q1:(t:Int)<(n:Int):=by omega
     have ht1:IntKind.i64.wrap ((t:Int)+1)=(t:Int)+1:=wrap64_id (by omega) (by omega)
     obtain ⟨t1,hte⟩:∃x,t+1=x:=⟨_,rfl⟩
     have ht2:(t:Int)+1=(t1:Int):=by omega
     rw [ht2]at ht1
     have hwy:hw y≤300:=by rw [HY.out];have:=hw_divF q t (by omega);omega
     have G1:=Lh (fun W=>fr_Int (t1:Int) W (by omega) (by omega))
     have hwt:=hw_natR t1 (by omega)
     have G2:=Lh (fun W=>fr_Div y ((t1:Int):Rat) W (by omega) (by omega) (by rw [←hte];exact num_nat t))
     obtain ⟨y1,hy1⟩:∃x,y / ((t1:Int):Rat)=x:=⟨_,rfl⟩
     obtain ⟨tr,htr⟩:∃x,((t1:Int):Rat)=x:=⟨_,rfl⟩
     rw [hy1]at G2
     rw [htr]at G1 G2
     have HNY:=Lh (show y1=divF q (t+1)from by rw [←hy1,HY.out,←hte];rfl)
     clear hy1 htr hwt hwy
     obtain ⟨p0,p1,p2,p3,p4,-⟩:=HV.out.five
     go_upto_region 14 with fail
     refine wp_region_L 8 (S:=(fun w'=>w'.cell? ⟨ob,0,none⟩=some (vA y)∧w'.cell? ⟨ob,1,none⟩=some (vB y)∧w'.cell? ⟨ob,2,none⟩=some (vC y)∧w'.cell? ⟨ob,3,none⟩=some (vD y)∧w'.cell? ⟨ob,4,none⟩=some (vE y))) (by kernel_rfl) ?_ (fun hHeld=>?_)
     ·simp [go_sem, *]
     refine tkL 0 (some 33) (fracV y) ?_
     try simp only [pS]
     refine tkL 1 (some 34) (.int .i64 (t:Int)) ?_
     try simp only [pS]
     refine tkL 2 (some 35) (.int .i64 (t1:Int)) ?_
     try simp only [pS]
     refine rdL 3 (fun K hK=>?_)
     go_simp
     (refine rtu (G1.out _) fun w21 hsz21 hl21 hc21 hf21 HG21=>?_;(try simp at hsz21))
     refine kO hK fun hQ1=>?_
     clear hK K hHeld
     refine rdL 4 (fun K hK=>?_)
     go_simp
     (refine rtu (G2.out _) fun w22 hsz22 hl22 hc22 hf22 HG22=>?_;(try simp at hsz22))
     refine kO hK fun hQ2=>?_
     clear hK K hQ1
     refine tkL 5 (some 32) (.tuple #[fracV y1,.int .i64 0]) ?_
     try simp only [pS]
     refine tkL 6 (some 38) (fracV y1) ?_
     try simp only [pS]
     have HV3:=Lh (show VB w22 ob [vA y,vB y,vC y,vD y,vE y]from by exact vbc HG22 (vbc HG21 HV.out))
     have HZ3:=Lh (show VB w22 w.heap.size [zU,zS,.bool false,zU,zS]from by exact vbc HG22 (vbc HG21 HZ.out))
     obtain ⟨r0,r1,r2,r3,r4,-⟩:=HV3.out.five
     have e0:=HV3.out.f 0 (by simp)
     have e1:=HV3.out.f 1 (by simp)
     have e2:=HV3.out.f 2 (by simp)
     have e3:=HV3.out.f 3 (by simp)
     have e4:=HV3.out.f 4 (by simp)
     have HG9:=Lh (show Gr w.heap.size w w22 from by exact gcc HG22 (gcc HG21 (gcc HG gzz)))
     have hs22:=HG22.out.size
     have hs21:=HG21.out.size
     clear hc21 hf21 hc22 hf22 p0 p1 p2 p3 p4
     refine rdLE 7 8 (fun K hK=>?_) (fun K hK=>?_)
     ·go_simp
      refine kO hK fun hQ3=>?_
      clear hK K hQ2 hQ3
      refine rdE 8 (fun K hK=>?_)
      go_simp
      (try dsimp only)
      refine hK.out _ _ ?_
      clear hK K
      try simp only [pS]
      refine AnyL.done (by kernel_rfl) ?_ _
      clear r0 r1 r2 r3 r4 e0 e1 e2 e3 e4
      go_wp2
      go_roundw
      case rel=>exact⟨t+1,y1,by go_num,by omega,HNY,Lh HV3.out.put5,Lh (HZ3.out.fars5 (by omega) _ _ _ _ _),Lh (by exact gcc HG9 gzz)⟩
      case measure=>simp [intOf];omega
     ·clear hQ2
      go_simp
      (try dsimp only)
      refine hK.out _ _ ?_
      clear hK K
      try simp only [pS]
      refine rdE 7 (fun K hK=>?_)
      go_simp
      (try dsimp only)
      refine hK.out _ _ ?_
      clear hK K
      try simp only [pS]
      refine AnyL.done (by kernel_rfl) ?_ _
      clear r0 r1 r2 r3 r4 e0 e1 e2 e3 e4
      go_wp2
      go_roundw
      case rel=>exact⟨t+1,y1,by go_num,by omega,HNY,Lh HV3.out.put5,Lh (HZ3.out.fars5 (by omega) _ _ _ _ _),Lh (by exact gcc HG9 gzz)⟩
      case measure=>simp [intOf];omega
    ·have htt:t=n:=by omega
     subst htt
     have HR:=Lh (show y=ratR t ps from by rw [HY.out,HQ2.out];rfl)
     obtain ⟨p0,p1,p2,p3,p4,-⟩:=HV.out.five
     obtain ⟨s0,s1,s2,s3,s4,-⟩:=HZ.out.five
     have e0:=HZ.out.f 0 (by simp)
     have e1:=HZ.out.f 1 (by simp)
     have e2:=HZ.out.f 2 (by simp)
     have e3:=HZ.out.f 3 (by simp)
     have e4:=HZ.out.f 4 (by simp)
     go_wp2
     refine ret_row (w:=wr.setCells w.heap.size 0 [vA y,vB y,vC y,vD y,vE y]) (g:=w.heap.size) Tryz.results62 rfl (VB.set (cs:= [zU,zS,.bool false,zU,zS]) HZ.out [vA y,vB y,vC y,vD y,vE y] rfl) Tryz.underlying59 rfl info_Frac rfl ⟨?_,?_⟩
     ·rw [←HR.out]
     ·exact Gr.sets (Nat.le_refl _) [vA y,vB y,vC y,vD y,vE y] 0 HG.out
end Go.Proofs.YtfgmdhjmgdccdaaGreat
namespace Go.Proofs.YtfgmdhjmgdccdaaGreat
open Go.RowKit Gus Go.Maps
theorem VB.put10 {w:World} {g:Nat} {c0 c1 c2 c3 c4 c5 c6 c7 c8 c9 x0 x1 x2 x3 x4 x5 x6 x7 x8 x9:Value} (h:VB w g [c0,c1,c2,c3,c4,c5,c6,c7,c8,c9]):VB ((((((((((w.setCell ⟨g,0,none⟩ x0).setCell ⟨g,1,none⟩ x1).setCell ⟨g,2,none⟩ x2).setCell ⟨g,3,none⟩ x3).setCell ⟨g,4,none⟩ x4).setCell ⟨g,5,none⟩ x5).setCell ⟨g,6,none⟩ x6).setCell ⟨g,7,none⟩ x7).setCell ⟨g,8,none⟩ x8).setCell ⟨g,9,none⟩ x9) g [x0,x1,x2,x3,x4,x5,x6,x7,x8,x9]:=h.set [x0,x1,x2,x3,x4,x5,x6,x7,x8,x9] rfl
set_option maxRecDepth 20000 in
theorem tri1 (i j:Nat) (w:World) (hi:i≤6) (hj:j≤6):Calls Tryz.prog 61 #[.int .i64 (i:Int),.int .i64 (j:Int)] w (Ret w (fracV (ratR (i+j+2) [i,j]))):=by
 obtain ⟨n,hn⟩:∃x,i+j+2=x:=⟨_,rfl⟩
 rw [hn]
 have z1:IntKind.i64.wrap ((i:Int)+(j:Int))=(i:Int)+(j:Int):=wrap64_id (by omega) (by omega)
 have z2:IntKind.i64.wrap ((i:Int)+(j:Int)+2)=(n:Int):=by rw [wrap64_id (by omega) (by omega)];omega
 have HR:=Lh (fun W g c h=>it_ratio n [i,j] g c W (by omega) (by simp) (by simp;omega) h)
 have hn20:n≤20:=by omega
 clear hn hi hj
 go_enter Tryz.func61,Tryz.ntmps61
 go_wp2_with fail
 have HS0:SL iCn 1 3 ((w.alloc (.cells #[zU,zS,.bool false,zU,zS] 59)).alloc (.cells #[.int .i64 (i:Int),.int .i64 (j:Int)] 3)) 0 (.slice (some ⟨w.heap.size+1,0,none⟩) 2 2) [i,j]:=SL.new' (enc:=iCn) (l:= [i,j]) (fun _=>rfl) [.int .i64 (i:Int),.int .i64 (j:Int)] rfl (by first|omega|(simp;done)|(simp;omega)) (Nat.zero_le _) (by simp [maxLen]) rfl
 have HS:=Lh HS0.sr
 (refine rtu (HR.out _ (w.heap.size+1) 2 HS.out) fun w1 hsz1 hl1 hc1 hf1 HG1=>?_;(try simp at hsz1))
 go_wp2
 refine ret_row (g:=w.heap.size) Tryz.results61 rfl (VB.set (cs:= [zU,zS,.bool false,zU,zS]) ?_ [.int .u64 (lowN (sz (ratR n [i,j]).num)),.string (bigS (sz (ratR n [i,j]).num)),.bool (ng (ratR n [i,j]).num),.int .u64 (lowN (fm (ratR n [i,j]))),.string (bigS (fm (ratR n [i,j])))] rfl) Tryz.underlying59 rfl info_Frac rfl ⟨rfl,?_⟩
 ·exact vbc HG1 vbb
 ·exact Gr.sets (Nat.le_refl _) [.int .u64 (lowN (sz (ratR n [i,j]).num)),.string (bigS (sz (ratR n [i,j]).num)),.bool (ng (ratR n [i,j]).num),.int .u64 (lowN (fm (ratR n [i,j]))),.string (bigS (fm (ratR n [i,j])))] 0 (by exact gcc HG1 gzz)
set_option maxRecDepth 20000 in
theorem itwice_raw (a0 a1 b0 b1 c0 c1 u0 u1 v0 v1 m0 m1 r:Rat) (w:World) (h1:∀W,Calls Tryz.prog 35 #[f2V b0 b1,f2V a0 a1] W (Ret W (f2V u0 u1))) (h2:∀W,Calls Tryz.prog 35 #[f2V c0 c1,f2V a0 a1] W (Ret W (f2V v0 v1))) (h3:∀W,Calls Tryz.prog 37 #[fracV u0,fracV v1] W (Ret W (fracV m0))) (h4:∀W,Calls Tryz.prog 37 #[fracV v0,fracV u1] W (Ret W (fracV m1))) (h5:∀W,Calls Tryz.prog 36 #[fracV m0,fracV m1] W (Ret W (fracV r))):
  Calls Tryz.prog 63 #[f2V a0 a1,f2V b0 b1,f2V c0 c1] w (Ret w (fracV r)):=by
 have H1:=Lh h1
 have H2:=Lh h2
 have H3:=Lh h3
 have H4:=Lh h4
 have H5:=Lh h5
 clear h1 h2 h3 h4 h5
 go_enter Tryz.func63,Tryz.ntmps63
 go_upto_region 1 with fail
 have HB0:=Lh (show VB ((((w.alloc (.cells #[vA a0,vB a0,vC a0,vD a0,vE a0,vA a1,vB a1,vC a1,vD a1,vE a1] 61)).alloc (.cells #[vA b0,vB b0,vC b0,vD b0,vE b0,vA b1,vB b1,vC b1,vD b1,vE b1] 61)).alloc (.cells #[vA c0,vB c0,vC c0,vD c0,vE c0,vA c1,vB c1,vC c1,vD c1,vE c1] 61)).alloc (.cells #[zU,zS,.bool false,zU,zS] 59)) (w.heap.size) [vA a0,vB a0,vC a0,vD a0,vE a0,vA a1,vB a1,vC a1,vD a1,vE a1]from by exact vbb)
 have HB1:=Lh (show VB ((((w.alloc (.cells #[vA a0,vB a0,vC a0,vD a0,vE a0,vA a1,vB a1,vC a1,vD a1,vE a1] 61)).alloc (.cells #[vA b0,vB b0,vC b0,vD b0,vE b0,vA b1,vB b1,vC b1,vD b1,vE b1] 61)).alloc (.cells #[vA c0,vB c0,vC c0,vD c0,vE c0,vA c1,vB c1,vC c1,vD c1,vE c1] 61)).alloc (.cells #[zU,zS,.bool false,zU,zS] 59)) (w.heap.size+1) [vA b0,vB b0,vC b0,vD b0,vE b0,vA b1,vB b1,vC b1,vD b1,vE b1]from by exact vbb)
 have HB2:=Lh (show VB ((((w.alloc (.cells #[vA a0,vB a0,vC a0,vD a0,vE a0,vA a1,vB a1,vC a1,vD a1,vE a1] 61)).alloc (.cells #[vA b0,vB b0,vC b0,vD b0,vE b0,vA b1,vB b1,vC b1,vD b1,vE b1] 61)).alloc (.cells #[vA c0,vB c0,vC c0,vD c0,vE c0,vA c1,vB c1,vC c1,vD c1,vE c1] 61)).alloc (.cells #[zU,zS,.bool false,zU,zS] 59)) (w.heap.size+1+1) [vA c0,vB c0,vC c0,vD c0,vE c0,vA c1,vB c1,vC c1,vD c1,vE c1]from by exact vbb)
 have HZ:=Lh (show VB ((((w.alloc (.cells #[vA a0,vB a0,vC a0,vD a0,vE a0,vA a1,vB a1,vC a1,vD a1,vE a1] 61)).alloc (.cells #[vA b0,vB b0,vC b0,vD b0,vE b0,vA b1,vB b1,vC b1,vD b1,vE b1] 61)).alloc (.cells #[vA c0,vB c0,vC c0,vD c0,vE c0,vA c1,vB c1,vC c1,vD c1,vE c1] 61)).alloc (.cells #[zU,zS,.bool false,zU,zS] 59)) (w.heap.size+1+1+1) [zU,zS,.bool false,zU,zS]from by exact vbb)
 have HG0:=Lh (show Gr w.heap.size w ((((w.alloc (.cells #[vA a0,vB a0,vC a0,vD a0,vE a0,vA a1,vB a1,vC a1,vD a1,vE a1] 61)).alloc (.cells #[vA b0,vB b0,vC b0,vD b0,vE b0,vA b1,vB b1,vC b1,vD b1,vE b1] 61)).alloc (.cells #[vA c0,vB c0,vC c0,vD c0,vE c0,vA c1,vB c1,vC c1,vD c1,vE c1] 61)).alloc (.cells #[zU,zS,.bool false,zU,zS] 59))from by exact gzz)
 have hz0:((((w.alloc (.cells #[vA a0,vB a0,vC a0,vD a0,vE a0,vA a1,vB a1,vC a1,vD a1,vE a1] 61)).alloc (.cells #[vA b0,vB b0,vC b0,vD b0,vE b0,vA b1,vB b1,vC b1,vD b1,vE b1] 61)).alloc (.cells #[vA c0,vB c0,vC c0,vD c0,vE c0,vA c1,vB c1,vC c1,vD c1,vE c1] 61)).alloc (.cells #[zU,zS,.bool false,zU,zS] 59)).heap.size=w.heap.size+1+1+1+1:=by simp
 generalize ((((w.alloc (.cells #[vA a0,vB a0,vC a0,vD a0,vE a0,vA a1,vB a1,vC a1,vD a1,vE a1] 61)).alloc (.cells #[vA b0,vB b0,vC b0,vD b0,vE b0,vA b1,vB b1,vC b1,vD b1,vE b1] 61)).alloc (.cells #[vA c0,vB c0,vC c0,vD c0,vE c0,vA c1,vB c1,vC c1,vD c1,vE c1] 61)).alloc (.cells #[zU,zS,.bool false,zU,zS] 59))=w0 at *
 have h30:w.heap.size+1+1+1<w0.heap.size:=by omega
 have h00:w.heap.size<w0.heap.size:=by omega
 have h01:w.heap.size<w0.heap.size+1:=by omega
 have h02:w.heap.size<w0.heap.size+1+1:=by omega
 have h10:w.heap.size+1<w0.heap.size:=by omega
 have h20:w.heap.size+1+1<w0.heap.size:=by omega
 clear hz0
 have k00:=HB0.out.c 0 _ rfl
 have k01:=HB0.out.c 1 _ rfl
 have k02:=HB0.out.c 2 _ rfl
 have k03:=HB0.out.c 3 _ rfl
 have k04:=HB0.out.c 4 _ rfl
 have k05:=HB0.out.c 5 _ rfl
 have k06:=HB0.out.c 6 _ rfl
 have k07:=HB0.out.c 7 _ rfl
 have k08:=HB0.out.c 8 _ rfl
 have k09:=HB0.out.c 9 _ rfl
 have k10:=HB1.out.c 0 _ rfl
 have k11:=HB1.out.c 1 _ rfl
 have k12:=HB1.out.c 2 _ rfl
 have k13:=HB1.out.c 3 _ rfl
 have k14:=HB1.out.c 4 _ rfl
 have k15:=HB1.out.c 5 _ rfl
 have k16:=HB1.out.c 6 _ rfl
 have k17:=HB1.out.c 7 _ rfl
 have k18:=HB1.out.c 8 _ rfl
 have k19:=HB1.out.c 9 _ rfl
 have k20:=HB2.out.c 0 _ rfl
 have k21:=HB2.out.c 1 _ rfl
 have k22:=HB2.out.c 2 _ rfl
 have k23:=HB2.out.c 3 _ rfl
 have k24:=HB2.out.c 4 _ rfl
 have k25:=HB2.out.c 5 _ rfl
 have k26:=HB2.out.c 6 _ rfl
 have k27:=HB2.out.c 7 _ rfl
 have k28:=HB2.out.c 8 _ rfl
 have k29:=HB2.out.c 9 _ rfl
 go_cut [7,8] (fun s7 s8 wx=> ∃g7 g8:Nat,s7= .pointer (some ⟨g7,0,none⟩)∧s8= .pointer (some ⟨g8,0,none⟩)∧VB wx g7 [vA u0,vB u0,vC u0,vD u0,vE u0,vA u1,vB u1,vC u1,vD u1,vE u1]∧VB wx g8 [vA v0,vB v0,vC v0,vD v0,vE v0,vA v1,vB v1,vC v1,vD v1,vE v1]∧w0.heap.size≤g7∧w0.heap.size≤g8∧Gr w0.heap.size w0 wx)
 case first=>
  go_region_held3 (fun w'=>w'.cell? ⟨w.heap.size,0,none⟩=some (vA a0)∧w'.cell? ⟨w.heap.size,1,none⟩=some (vB a0)∧w'.cell? ⟨w.heap.size,2,none⟩=some (vC a0)∧w'.cell? ⟨w.heap.size,3,none⟩=some (vD a0)∧w'.cell? ⟨w.heap.size,4,none⟩=some (vE a0)∧w'.cell? ⟨w.heap.size,5,none⟩=some (vA a1)∧w'.cell? ⟨w.heap.size,6,none⟩=some (vB a1)∧w'.cell? ⟨w.heap.size,7,none⟩=some (vC a1)∧w'.cell? ⟨w.heap.size,8,none⟩=some (vD a1)∧w'.cell? ⟨w.heap.size,9,none⟩=some (vE a1)∧w'.cell? ⟨w.heap.size+1,0,none⟩=some (vA b0)∧w'.cell? ⟨w.heap.size+1,1,none⟩=some (vB b0)∧w'.cell? ⟨w.heap.size+1,2,none⟩=some (vC b0)∧w'.cell? ⟨w.heap.size+1,3,none⟩=some (vD b0)∧w'.cell? ⟨w.heap.size+1,4,none⟩=some (vE b0)∧w'.cell? ⟨w.heap.size+1,5,none⟩=some (vA b1)∧w'.cell? ⟨w.heap.size+1,6,none⟩=some (vB b1)∧w'.cell? ⟨w.heap.size+1,7,none⟩=some (vC b1)∧w'.cell? ⟨w.heap.size+1,8,none⟩=some (vD b1)∧w'.cell? ⟨w.heap.size+1,9,none⟩=some (vE b1)∧w'.cell? ⟨w.heap.size+1+1,0,none⟩=some (vA c0)∧w'.cell? ⟨w.heap.size+1+1,1,none⟩=some (vB c0)∧w'.cell? ⟨w.heap.size+1+1,2,none⟩=some (vC c0)∧w'.cell? ⟨w.heap.size+1+1,3,none⟩=some (vD c0)∧w'.cell? ⟨w.heap.size+1+1,4,none⟩=some (vE c0)∧w'.cell? ⟨w.heap.size+1+1,5,none⟩=some (vA c1)∧w'.cell? ⟨w.heap.size+1+1,6,none⟩=some (vB c1)∧w'.cell? ⟨w.heap.size+1+1,7,none⟩=some (vC c1)∧w'.cell? ⟨w.heap.size+1+1,8,none⟩=some (vD c1)∧w'.cell? ⟨w.heap.size+1+1,9,none⟩=some (vE c1))
   (first|(simp [go_sem, *];done))
   (first|((go_at_call_of 35 (Value.agg #[vA b0,vB b0,vC b0,vD b0,vE b0,vA b1,vB b1,vC b1,vD b1,vE b1]);refine(H1.out _).mono ?_;rintro e w1 ⟨rfl,hg1⟩;(try (with_reducible replace hg1:=Gr.of_drew hg1));have hsz1:=hg1.size;(try simp at hsz1);(try (have hq1_0:w0.heap.size<w1.heap.size:=(by omega)));(try (have hq1_1:w0.heap.size+1<w1.heap.size:=(by omega)));have hy1_0:w.heap.size<w1.heap.size:=(by omega);have hy1_1:w.heap.size+1<w1.heap.size:=(by omega);have hy1_2:w.heap.size+1+1<w1.heap.size:=(by omega);have hp1_1_0:w.heap.size<w1.heap.size+1:=(by omega);have hp1_1_1:w.heap.size+1<w1.heap.size+1:=(by omega);have hp1_1_2:w.heap.size+1+1<w1.heap.size+1:=(by omega);have hp1_2_0:w.heap.size<w1.heap.size+1+1:=(by omega);have hp1_2_1:w.heap.size+1<w1.heap.size+1+1:=(by omega);have hp1_2_2:w.heap.size+1+1<w1.heap.size+1+1:=(by omega);obtain ⟨hc1,hf1⟩:=hg1.cells;have HG1:=Lh hg1;clear hg1))|((go_at_call_of 35 (Value.agg #[vA c0,vB c0,vC c0,vD c0,vE c0,vA c1,vB c1,vC c1,vD c1,vE c1]);refine(H2.out _).mono ?_;rintro e w2 ⟨rfl,hg2⟩;(try (with_reducible replace hg2:=Gr.of_drew hg2));have hsz2:=hg2.size;(try simp at hsz2);(try (have hq2_0:w0.heap.size<w2.heap.size:=(by omega)));(try (have hq2_1:w0.heap.size+1<w2.heap.size:=(by omega)));(try (have hq2_2:w1.heap.size<w2.heap.size:=(by omega)));(try (have hq2_3:w1.heap.size+1<w2.heap.size:=(by omega)));have hy2_0:w.heap.size<w2.heap.size:=(by omega);have hy2_1:w.heap.size+1<w2.heap.size:=(by omega);have hy2_2:w.heap.size+1+1<w2.heap.size:=(by omega);have hp2_1_0:w.heap.size<w2.heap.size+1:=(by omega);have hp2_1_1:w.heap.size+1<w2.heap.size+1:=(by omega);have hp2_1_2:w.heap.size+1+1<w2.heap.size+1:=(by omega);have hp2_2_0:w.heap.size<w2.heap.size+1+1:=(by omega);have hp2_2_1:w.heap.size+1<w2.heap.size+1+1:=(by omega);have hp2_2_2:w.heap.size+1+1<w2.heap.size+1+1:=(by omega);obtain ⟨hc2,hf2⟩:=hg2.cells;have HG2:=Lh hg2;clear hg2)))
  all_goals (go_wp2_with fail;go_meet;(first|exact⟨_,_,rfl,rfl,by(with_reducible (repeat' (first|(refine VB.new' ?_;exact(by first|omega|(simp;done)|(simp;omega)))|apply VB.put10|refine VB.drew ?_|refine VB.far ?_ ?_ _|refine VB.alloc ?_ _|refine VB.gr ?_ HG2.out ?_|refine VB.gr ?_ HG1.out ?_|omega|(simp;done)|(simp;omega)))),by(with_reducible (repeat' (first|(refine VB.new' ?_;exact(by first|omega|(simp;done)|(simp;omega)))|apply VB.put10|refine VB.drew ?_|refine VB.far ?_ ?_ _|refine VB.alloc ?_ _|refine VB.gr ?_ HG2.out ?_|refine VB.gr ?_ HG1.out ?_|omega|(simp;done)|(simp;omega)))),by omega,by omega,by exact gcc HG2 (gcc HG1 gzz)⟩))
 case rest=>
  obtain ⟨wx,hw9⟩:∃q,q=wc:=⟨_,rfl⟩
  subst hw9
  obtain ⟨g7,g8,rfl,rfl,hV7,hV8,hg7,hg8,hgx⟩:=hcut
  have HV7:=Lh hV7
  have HV8:=Lh hV8
  have hl7:=hV7.lt
  have hl8:=hV8.lt
  have HZx:=Lh (HZ.out.gr hgx h30)
  have HGX:=Lh (HG0.out.trans (hgx.mono (by omega)))
  have h3x:=HZx.out.lt
  have hn7:w.heap.size+1+1+1≠g7:=by omega
  have hn8:w.heap.size+1+1+1≠g8:=by omega
  clear hV7 hV8 hgx HB0 HB1 HB2 HZ k00 k01 k02 k03 k04 k05 k06 k07 k08 k09 k10 k11 k12 k13 k14 k15 k16 k17 k18 k19 k20 k21 k22 k23 k24 k25 k26 k27 k28 k29
  go_upto_region 2 with fail
  have a0:=HV7.out.c 0 _ rfl
  have a1:=HV7.out.c 1 _ rfl
  have a2:=HV7.out.c 2 _ rfl
  have a3:=HV7.out.c 3 _ rfl
  have a4:=HV7.out.c 4 _ rfl
  have a5:=HV7.out.c 5 _ rfl
  have a6:=HV7.out.c 6 _ rfl
  have a7:=HV7.out.c 7 _ rfl
  have a8:=HV7.out.c 8 _ rfl
  have a9:=HV7.out.c 9 _ rfl
  have e0:=HV8.out.c 0 _ rfl
  have e1:=HV8.out.c 1 _ rfl
  have e2:=HV8.out.c 2 _ rfl
  have e3:=HV8.out.c 3 _ rfl
  have e4:=HV8.out.c 4 _ rfl
  have e5:=HV8.out.c 5 _ rfl
  have e6:=HV8.out.c 6 _ rfl
  have e7:=HV8.out.c 7 _ rfl
  have e8:=HV8.out.c 8 _ rfl
  have e9:=HV8.out.c 9 _ rfl
  refine wp_region_held_drew (S:=(fun w'=>w'.cell? ⟨g7,0,none⟩=some (vA u0)∧w'.cell? ⟨g7,1,none⟩=some (vB u0)∧w'.cell? ⟨g7,2,none⟩=some (vC u0)∧w'.cell? ⟨g7,3,none⟩=some (vD u0)∧w'.cell? ⟨g7,4,none⟩=some (vE u0)∧w'.cell? ⟨g7,5,none⟩=some (vA u1)∧w'.cell? ⟨g7,6,none⟩=some (vB u1)∧w'.cell? ⟨g7,7,none⟩=some (vC u1)∧w'.cell? ⟨g7,8,none⟩=some (vD u1)∧w'.cell? ⟨g7,9,none⟩=some (vE u1)∧w'.cell? ⟨g8,0,none⟩=some (vA v0)∧w'.cell? ⟨g8,1,none⟩=some (vB v0)∧w'.cell? ⟨g8,2,none⟩=some (vC v0)∧w'.cell? ⟨g8,3,none⟩=some (vD v0)∧w'.cell? ⟨g8,4,none⟩=some (vE v0)∧w'.cell? ⟨g8,5,none⟩=some (vA v1)∧w'.cell? ⟨g8,6,none⟩=some (vB v1)∧w'.cell? ⟨g8,7,none⟩=some (vC v1)∧w'.cell? ⟨g8,8,none⟩=some (vD v1)∧w'.cell? ⟨g8,9,none⟩=some (vE v1))) (by kernel_rfl) ?_ (fun hHeld=>?_)
  ·simp [go_sem, *]
  refine tq 0 15 (.pointer (some ⟨g7,0,none⟩)) ?_
  refine tq 1 16 (fracV u0) ?_
  refine tq 2 17 (.pointer (some ⟨g8,5,none⟩)) ?_
  refine tq 3 18 (fracV v1) ?_
  refine tq 5 20 (.pointer (some ⟨g8,0,none⟩)) ?_
  refine tq 6 21 (fracV v0) ?_
  refine tq 7 22 (.pointer (some ⟨g7,5,none⟩)) ?_
  refine tq 8 23 (fracV u1) ?_
  refine rd 4 (fun K hK=>?_)
  go_simp
  (refine rtt (H3.out _) fun w11 hsz11 hc11 hf11 HG11=>?_;(try simp at hsz11);have hy11_0:g7<w11.heap.size:=(by omega);have hy11_1:g8<w11.heap.size:=(by omega);have hy11_2:w.heap.size+1+1+1<w11.heap.size:=(by omega);have hp11_1_0:g7<w11.heap.size+1:=(by omega);have hp11_1_1:g8<w11.heap.size+1:=(by omega);have hp11_1_2:w.heap.size+1+1+1<w11.heap.size+1:=(by omega);have hp11_2_0:g7<w11.heap.size+1+1:=(by omega);have hp11_2_1:g8<w11.heap.size+1+1:=(by omega);have hp11_2_2:w.heap.size+1+1+1<w11.heap.size+1+1:=(by omega))
  refine kO hK fun hQ1=>?_
  clear hK K hHeld
  refine rd 9 (fun K hK=>?_)
  go_simp
  (refine rtt (H4.out _) fun w12 hsz12 hc12 hf12 HG12=>?_;(try simp at hsz12);have hy12_0:g7<w12.heap.size:=(by omega);have hy12_1:g8<w12.heap.size:=(by omega);have hy12_2:w.heap.size+1+1+1<w12.heap.size:=(by omega);have hp12_1_0:g7<w12.heap.size+1:=(by omega);have hp12_1_1:g8<w12.heap.size+1:=(by omega);have hp12_1_2:w.heap.size+1+1+1<w12.heap.size+1:=(by omega);have hp12_2_0:g7<w12.heap.size+1+1:=(by omega);have hp12_2_1:g8<w12.heap.size+1+1:=(by omega);have hp12_2_2:w.heap.size+1+1+1<w12.heap.size+1+1:=(by omega))
  refine kO hK fun hQ2=>?_
  clear hK K hQ1
  refine rd 10 (fun K hK=>?_)
  go_simp
  (refine rtt (H5.out _) fun w13 hsz13 hc13 hf13 HG13=>?_;(try simp at hsz13);have hy13_0:g7<w13.heap.size:=(by omega);have hy13_1:g8<w13.heap.size:=(by omega);have hy13_2:w.heap.size+1+1+1<w13.heap.size:=(by omega);have hp13_1_0:g7<w13.heap.size+1:=(by omega);have hp13_1_1:g8<w13.heap.size+1:=(by omega);have hp13_1_2:w.heap.size+1+1+1<w13.heap.size+1:=(by omega);have hp13_2_0:g7<w13.heap.size+1+1:=(by omega);have hp13_2_1:g8<w13.heap.size+1+1:=(by omega);have hp13_2_2:w.heap.size+1+1+1<w13.heap.size+1+1:=(by omega))
  (try dsimp only)
  refine hK.out _ _ ?_ (fun hQ3=>?_)
  ·(first|exact trivial|((try dsimp only);simp [go_sem, *]))
  clear hK K hQ2
  try simp only [pS]
  refine wpAnyH_ready (rs:= [11]) (by kernel_rfl) (by simp) ?_
  refine AllReadyH.cons (o:=⟨none,_,_,_,_,_⟩) rfl (fun K hK=>?_) AllReadyH.nil
  rw [if_pos (by rfl)]
  refine wp_store_mid 59 _ _ rfl (w.heap.size+1+1+1) 0 (List.toArray [vA r,vB r,vC r,vD r,vE r]) rfl rfl (VB.there (cs:= [zU,zS,.bool false,zU,zS]) ?_) info_Frac (by first|rfl|simp [Value.oneCell']) ?_
  ·exact vbc HG13 (vbc HG12 (vbc HG11 HZx.out))
  simp only [pS]
  refine hK.out _ _ ?_ (fun hQ4=>?_)
  ·have hh:=hQ3;(try dsimp only at hh ⊢);simp only [cell_sets_ne (show g7≠w.heap.size+1+1+1 by omega),cell_sets_ne (show g8≠w.heap.size+1+1+1 by omega)];exact hh
  clear hK K hQ3
  refine wpAnyH_done (by kernel_rfl) ?_ _
  have HZ9:=Lh (show VB w13 (w.heap.size+1+1+1) [zU,zS,.bool false,zU,zS]from by exact vbc HG13 (vbc HG12 (vbc HG11 HZx.out)))
  go_wp2
  refine ret_row (w:=w13.setCells (w.heap.size+1+1+1) 0 [vA r,vB r,vC r,vD r,vE r]) (g:=w.heap.size+1+1+1) Tryz.results63 rfl (VB.set (cs:= [zU,zS,.bool false,zU,zS]) HZ9.out [vA r,vB r,vC r,vD r,vE r] rfl) Tryz.underlying59 rfl info_Frac rfl ⟨rfl,?_⟩
  exact Gr.sets (show w.heap.size≤w.heap.size+1+1+1 by omega) [vA r,vB r,vC r,vD r,vE r] 0 (by exact gcc HG13 (gcc HG12 (gcc HG11 (gcc HGX gzz))))
end Go.Proofs.YtfgmdhjmgdccdaaGreat
