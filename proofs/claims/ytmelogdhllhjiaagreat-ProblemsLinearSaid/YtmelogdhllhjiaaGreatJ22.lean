/-
  Part 22 of the proof: PolI ProbB.
-/
import Derived.Test.YtmelogdhllhjiaaGreatJ21
set_option linter.unusedSimpArgs false
set_option linter.unusedVariables false
namespace Go.Proofs.YtmelogdhllhjiaaGreat
open Go.RowKit Gus Go.Maps
theorem tC_inj {x y:T}:(lowN (sz x.c.num)=lowN (sz y.c.num)∧bigS (sz x.c.num)=bigS (sz y.c.num))∧ng x.c.num=ng y.c.num∧lowN (fm x.c)=lowN (fm y.c)∧bigS (fm x.c)=bigS (fm y.c)↔x.c=y.c:=by
 rw [nat_same,nat_same]
 constructor
 ·rintro ⟨h1,h2,h3⟩
  have e1:x.c.num=y.c.num:=by rw [←sgd_self x.c.num,←sgd_self y.c.num,h1,h2]
  have e2:x.c.den=y.c.den:=by rw [den_fm,den_fm,h3]
  exact Rat.ext e1 e2
 ·intro h;rw [h];exact⟨rfl,rfl,rfl⟩
set_option maxRecDepth 20000 in
set_option maxHeartbeats 4000000 in
theorem neq_Term (x y:T) (W:World):(binOp .neq 58 (tV x) (tV y)).run Tryz.prog W= .ok (.bool (!decide (x=y))) W:=by
 have h:= @tC_inj x y
 go_simp
 by_cases e:x=y
 ·subst e;simp
 ·rw [decide_eq_false e]
  repeat' split
  all_goals first
   | rfl
   | (exfalso
      rename_i h1 h2 h3 h4 h5 h6 h7
      have h8:=h.1 ⟨⟨by omega,bytes_toList_inj.1 h4⟩,h5,by omega,bytes_toList_inj.1 h7⟩
      apply e
      cases x;cases y
      simp only at h1 h2 h8
      simp only [T.mk.injEq]
      exact⟨by omega,by omega,h8⟩)
set_option maxRecDepth 20000 in
set_option maxHeartbeats 4000000 in
theorem equal_Term (l m:List T) (v u:Value) (w:World) (hS:PL w 0 v l) (hU:PL w 0 u m):Calls Tryz.prog 31 #[v,u] w (Ret w (.bool (decide (l=m)))):=by
 obtain ⟨a,ca,rfl⟩:=hS.at
 obtain ⟨b,cb,rfl⟩:=hU.at
 have hl:=hS.len
 have hl2:(l.length:Int)≤9223372036854775807:=by simp only [maxLen]at hl;omega
 have hm:=hU.len
 have hm2:(m.length:Int)≤9223372036854775807:=by simp only [maxLen]at hm;omega
 have hneq:=neq_Term
 have HS:=Lib.hid hS
 have HU:=Lib.hid hU
 clear hS hU hl hm
 by_cases hlm:l.length=m.length
 ·have HLM:=Lib.hid hlm
  have hml:(m.length:Int)=(l.length:Int):=by omega
  rw [←hlm]
  clear hlm hml hm2
  go_enter Tryz.func31,Tryz.ntmps31
  go_wp2
  go_loopw [13] (fun s wr=> ∃n:Nat,s= .int .i64 n∧n≤l.length∧Hid (l.take n=m.take n)∧Gr w.heap.size w wr) (fun s _=>l.length - (intOf s).toNat)
  case atStart=>exact⟨0,rfl,Nat.zero_le _,rfl,Gr.refl _ _⟩
  case round=>
   obtain ⟨n,rfl,hn,HE,hgr⟩:=hrel
   by_cases hlt:n<l.length
   ·obtain ⟨t,ht⟩:∃t,l[n]=t:=⟨_,rfl⟩
    have hltm:n<m.length:=HLM.out ▸ hlt
    obtain ⟨s,hs⟩:∃s,m[n]=s:=⟨_,rfl⟩
    obtain ⟨g,cap',e1,_,_,_,hsh,hR⟩:=(HS.out.gr hgr).block (by intro e;rw [e]at hlt;simp at hlt)
    injection e1 with e1 _ e2
    subst e1 e2
    obtain ⟨g',cap'',e1,_,_,_,hsh',hR'⟩:=(HU.out.gr hgr).block (by intro e;rw [e]at hltm;simp at hltm)
    injection e1 with e1 _ e2
    subst e1 e2
    obtain ⟨v0,v1,v2,v3,v4,v5,v6⟩:=hR.term hlt ht
    obtain ⟨u0,u1,u2,u3,u4,u5,u6⟩:=hR'.term hltm hs
    have HT:=Lib.hid (And.intro ht hs)
    have HG:=Lib.hid hgr
    have HM:=Lib.hid hltm
    clear hgr hR hsh hR' hsh' ht hs
    by_cases hts:t=s
    ·have HQ:=Lib.hid hts
     have hq:decide (t=s)=true:=decide_eq_true hts
     clear hts
     have hne:(binOp .neq 58 (tV t) (tV s)).run Tryz.prog=fun W=> .ok (.bool false) W:=funext fun W=>by rw [neq_Term,hq];rfl
     clear hq hneq
     go_wp2
     go_region
     go_wp2
     go_roundw
     case rel=>
      refine⟨n+1,by go_num,by omega,?_,by(with_reducible (repeat' (first|exact Gr.refl _ _|refine Gr.drew ?_|refine Gr.setCell ?_ ?_ _|refine Gr.alloc ?_ ?_ _|refine Gr.trans ?_ (Gr.mono HG.out ?_)|omega|(simp;done)|(simp;omega))))⟩
      show _=_
      rw [List.take_succ_eq_append_getElem hlt,List.take_succ_eq_append_getElem hltm,HE.out,HT.out.1,HT.out.2,HQ.out]
     case measure=>simp [intOf];omega
    ·have HQ:=Lib.hid hts
     have hq:decide (t=s)=false:=decide_eq_false hts
     clear hts
     have hne:(binOp .neq 58 (tV t) (tV s)).run Tryz.prog=fun W=> .ok (.bool true) W:=funext fun W=>by rw [neq_Term,hq];rfl
     clear hq hneq
     go_wp2
     go_region
     go_wp2
     go_ret
     have e:decide (l=m)=false:=decide_eq_false fun e=>HQ.out (by
      have h1:=HT.out.1;have h2:=HT.out.2
      subst e
      rw [←h1,←h2])
     exact⟨by rw [e];rfl,by(with_reducible (repeat' (first|exact Gr.refl _ _|refine Gr.drew ?_|refine Gr.setCell ?_ ?_ _|refine Gr.alloc ?_ ?_ _|refine Gr.trans ?_ (Gr.mono HG.out ?_)|omega|(simp;done)|(simp;omega))))⟩
   ·obtain rfl:n=l.length:=by omega
    have HG:=Lib.hid hgr
    clear hgr
    have e:l=m:=by have:=HE.out;rwa [List.take_length,HLM.out,List.take_length]at this
    have HQ:=Lib.hid (decide_eq_true e)
    clear e
    go_wp2
    go_ret
    exact⟨by rw [HQ.out];rfl,HG.out⟩
 ·have hb:((l.length:Int) != (m.length:Int))=true:=by simp;omega
  have e:decide (l=m)=false:=decide_eq_false fun e=>hlm (by rw [e])
  rw [e]
  clear hlm e
  go_enter Tryz.func31,Tryz.ntmps31
  go_wp2
  go_ret
  exact⟨rfl,Gr.refl _ _⟩
set_option maxRecDepth 20000 in
set_option maxHeartbeats 4000000 in
theorem po_Same (l m:List T) (v u:Value) (w:World) (hS:PL w 0 v l) (hU:PL w 0 u m) (hok:∀t∈l,t.ok) (hok2:∀t∈m,t.ok) (ht:tot l≤100000000000) (ht2:tot m≤100000000000):Calls Tryz.prog 14 #[v,u] w (Ret w (.bool (decide (gat l=gat m)))):=by
 have hB1:=Lib.hid (po_brought l v w hS hok ht)
 have HU:=Lib.hid (And.intro hU (And.intro hok2 ht2))
 clear hS hU hok hok2 ht ht2
 go_enter Tryz.func14,Tryz.ntmps14
 go_wp2_with fail
 refine hB1.out.mono ?_
 rintro e w2 ⟨v2,rfl,hS2,hg2⟩
 have HB2:=Lib.hid (po_brought m u w2 (HU.out.1.gr hg2) HU.out.2.1 HU.out.2.2)
 have HS2:=Lib.hid hS2
 have HG2:=Lib.hid hg2
 have hsz2:=hg2.size
 clear hS2 hg2
 go_wp2_with fail
 refine HB2.out.mono ?_
 rintro e w3 ⟨v3,rfl,hS3,hg3⟩
 have HE:=Lib.hid (equal_Term (gat l) (gat m) v2 v3 w3 ((HS2.out.gr hg3).mono (Nat.zero_le _)) (hS3.mono (Nat.zero_le _)))
 have HG3:=Lib.hid hg3
 clear hS3 hg3
 generalize decide (gat l=gat m)=r at *
 go_wp2_with fail
 (refine(HE.out).mono ?_;rintro e w4 ⟨rfl,hg4⟩;(try (with_reducible replace hg4:=Gr.of_drew hg4));have hsz4:=hg4.size;(try simp at hsz4);skip;obtain ⟨hc4,hf4⟩:=hg4.cells;have HG4:=Lib.hid hg4;clear hg4)
 go_wp2
 go_ret
 exact⟨rfl,(HG2.out.trans (HG3.out.mono hsz2)).trans (HG4.out.mono (by have:=HG3.out.size;omega))⟩
def xL:List T:= [⟨1,0,((1:Int):Rat)⟩]
def yL:List T:= [⟨0,1,((1:Int):Rat)⟩]
set_option maxRecDepth 20000 in
set_option maxHeartbeats 4000000 in
theorem X_raw (q:Rat) (w:World) (hI:∀w,Calls Tryz.prog 16 #[.int .i64 1] w (Ret w (fracV q))):Calls Tryz.prog 12 #[] w (RetP w [⟨1,0,q⟩]):=by
 have hI:=Lib.hid hI
 go_enter Tryz.func12,Tryz.ntmps12
 go_wp2_with fail
 (refine(hI.out _).mono ?_;rintro e w1 ⟨rfl,hg1⟩;(try (with_reducible replace hg1:=Gr.of_drew hg1));have hsz1:=hg1.size;(try simp at hsz1);skip;obtain ⟨hc1,hf1⟩:=hg1.cells;have HG1:=Lib.hid hg1;clear hg1)
 go_wp2
 go_ret
 exact⟨_,rfl,SL.new' (l:= [⟨1,0,q⟩]) tC_len _ rfl rfl (by omega) (by simp [maxLen]) rfl,by(with_reducible (repeat' (first|exact Gr.refl _ _|refine Gr.drew ?_|refine Gr.setCell ?_ ?_ _|refine Gr.alloc ?_ ?_ _|refine Gr.trans ?_ (Gr.mono HG1.out ?_)|omega|(simp;done)|(simp;omega))))⟩
set_option maxRecDepth 20000 in
set_option maxHeartbeats 4000000 in
theorem Y_raw (q:Rat) (w:World) (hI:∀w,Calls Tryz.prog 16 #[.int .i64 1] w (Ret w (fracV q))):Calls Tryz.prog 13 #[] w (RetP w [⟨0,1,q⟩]):=by
 have hI:=Lib.hid hI
 go_enter Tryz.func13,Tryz.ntmps13
 go_wp2_with fail
 (refine(hI.out _).mono ?_;rintro e w1 ⟨rfl,hg1⟩;(try (with_reducible replace hg1:=Gr.of_drew hg1));have hsz1:=hg1.size;(try simp at hsz1);skip;obtain ⟨hc1,hf1⟩:=hg1.cells;have HG1:=Lib.hid hg1;clear hg1)
 go_wp2
 go_ret
 exact⟨_,rfl,SL.new' (l:= [⟨0,1,q⟩]) tC_len _ rfl rfl (by omega) (by simp [maxLen]) rfl,by(with_reducible (repeat' (first|exact Gr.refl _ _|refine Gr.drew ?_|refine Gr.setCell ?_ ?_ _|refine Gr.alloc ?_ ?_ _|refine Gr.trans ?_ (Gr.mono HG1.out ?_)|omega|(simp;done)|(simp;omega))))⟩
theorem po_X (w:World):Calls Tryz.prog 12 #[] w (RetP w xL):=X_raw _ w fun w=>fr_Int 1 w (by omega) (by omega)
theorem po_Y (w:World):Calls Tryz.prog 13 #[] w (RetP w yL):=Y_raw _ w fun w=>fr_Int 1 w (by omega) (by omega)
def degL (l:List T):Int:=match l.getLast? with|some t=>((t.i+t.j:Nat):Int)|none=> -1
set_option maxRecDepth 20000 in
set_option maxHeartbeats 4000000 in
theorem po_Degree (l:List T) (v:Value) (w:World) (hS:PL w 0 v l) (hok:∀t∈l,t.ok) (ht:tot l≤100000000000):Calls Tryz.prog 15 #[v] w (Ret w (.int .i64 (degL (gat l)))):=by
 have hB1:=Lib.hid (po_brought l v w hS hok ht)
 have hokg:=(nf_gat hok).ok
 generalize gat l=gl at *
 clear hS hok ht
 go_enter Tryz.func15,Tryz.ntmps15
 go_wp2_with fail
 refine hB1.out.mono ?_
 rintro e w2 ⟨v2,rfl,hS2,hg2⟩
 have HG2:=Lib.hid hg2
 have hsz2:=hg2.size
 by_cases hne:gl= []
 ·subst hne
  obtain ⟨a,ca,rfl⟩:=hS2.at
  clear hS2 hg2 hokg
  go_wp2
  go_ret
  exact⟨rfl,HG2.out⟩
 ·obtain ⟨g,cap,rfl,_,_,_,hsh,hR⟩:=hS2.block hne
  have hlen:0<gl.length:=List.length_pos_iff.2 hne
  have hl:=hS2.len
  obtain ⟨t,ht⟩:∃t,gl[gl.length - 1]'(by omega)=t:=⟨_,rfl⟩
  obtain ⟨v0,v1,v2,v3,v4,v5,v6⟩:=hR.term (by omega) ht
  have hto:=hokg t (ht ▸ List.getElem_mem _)
  unfold T.ok at hto
  have e:degL gl=(t.i:Int)+(t.j:Int):=by
   unfold degL
   rw [List.getLast?_eq_getElem?,List.getElem?_eq_getElem (by omega),ht]
   simp
  have HE:=Lib.hid e
  obtain ⟨n,hn⟩:∃n,n=gl.length - 1:=⟨_,rfl⟩
  rw [←hn]at v0 v1 v2 v3 v4 v5 v6
  clear hS2 hg2 hokg hR hsh e ht hne
  generalize gl.length=L at *
  have hnb:(L:Int)≤9223372036854775807:=by simp only [maxLen]at hl;omega
  have hwr:IntKind.i64.wrap ((t.i:Int)+(t.j:Int))=(t.i:Int)+(t.j:Int):=by rw [IntKind.wrap_i64];omega
  have hn1:(L:Int) - 1=(n:Int):=by omega
  have hn2:(n:Int)<(L:Int):=by omega
  have hn3:IntKind.i64.wrap (n:Int)=(n:Int):=by rw [IntKind.wrap_i64];omega
  have hz:((L:Int) == 0)=false:=by simp;omega
  have hz2:¬L=0:=by omega
  clear hl hlen hn
  go_wp2
  go_ret
  exact⟨by rw [HE.out];rfl,by(with_reducible (repeat' (first|exact Gr.refl _ _|refine Gr.drew ?_|refine Gr.setCell ?_ ?_ _|refine Gr.alloc ?_ ?_ _|refine Gr.trans ?_ (Gr.mono HG2.out ?_)|omega|(simp;done)|(simp;omega))))⟩
end Go.Proofs.YtmelogdhllhjiaaGreat
namespace Go.Proofs.YtmelogdhllhjiaaGreat
open Go.RowKit Gus Go.Maps
theorem tot_scaleL (k:Rat) (l:List T):tot (scaleL k l)≤tot l*(hw k+1):=by
 unfold scaleL
 have h1:=tot_gat ((gat l).map (T.scale k))
 have h2:=tot_scale k (gat l)
 have h3:=tot_gat l
 have h4:=tot_len (gat l)
 have h5:(gat l).length*hw k≤tot l*hw k:=Nat.mul_le_mul_right _ (by omega)
 rw [Nat.mul_add]
 omega
theorem tot_dxL {l:List T} (hok:∀t∈l,t.ok):tot (dxL l)≤tot l*3:=by
 unfold dxL
 have h1:=tot_gat ((gat l).map T.dx)
 have h2:=tot_dx (gat l) (nf_gat hok).ok
 have h3:=tot_gat l
 have h4:=tot_len (gat l)
 omega
theorem tot_dyL {l:List T} (hok:∀t∈l,t.ok):tot (dyL l)≤tot l*3:=by
 unfold dyL
 have h1:=tot_gat ((gat l).map T.dy)
 have h2:=tot_dy (gat l) (nf_gat hok).ok
 have h3:=tot_gat l
 have h4:=tot_len (gat l)
 omega
theorem tot_addL (l m:List T):tot (addL l m)≤tot l+tot m:=by
 unfold addL
 have h1:=tot_gat (gat l++gat m)
 have h2:=tot_gat l;have h3:=tot_gat m
 rw [tot_append]at h1
 omega
theorem ok_scaleL {k:Rat} {l:List T} (h:∀t∈l,t.ok):∀t∈scaleL k l,t.ok:=(nf_gat (ok_scale h)).ok
theorem ok_dxL {l:List T} (h:∀t∈l,t.ok):∀t∈dxL l,t.ok:=(nf_gat (by
 intro t ht
 obtain ⟨x,hx,rfl⟩:=List.mem_map.1 ht
 have:=(nf_gat h).ok x hx
 unfold T.ok at *
 simp only [T.dx];omega)).ok
theorem ok_dyL {l:List T} (h:∀t∈l,t.ok):∀t∈dyL l,t.ok:=(nf_gat (by
 intro t ht
 obtain ⟨x,hx,rfl⟩:=List.mem_map.1 ht
 have:=(nf_gat h).ok x hx
 unfold T.ok at *
 simp only [T.dy];omega)).ok
theorem ok_addL {l m:List T} (h:∀t∈l,t.ok) (h2:∀t∈m,t.ok):∀t∈addL l m,t.ok:=(nf_gat (by
 intro t ht
 rcases List.mem_append.1 ht with h3|h3
 ·exact(nf_gat h).ok t h3
 ·exact(nf_gat h2).ok t h3)).ok
theorem SL.far {α:Type} {enc:α→List Value} {k:Nat} {t:TypeId} {w:World} {B:Nat} {v:Value} {l:List α} (h:SL enc k t w B v l) {p:Addr} (hp:p.block<B) (x:Value):SL enc k t (w.setCell p x) B v l:=by
 rcases h with h|⟨g,cap,h1,h2,h3,h4,h5,h6⟩
 ·exact .inl h
 ·refine .inr ⟨g,cap,h1,h2,h3,h4,h5.set p x,fun j hj i u hu=>?_⟩
  have hb:(w.setCell p x).heap[g]? =w.heap[g]? :=Below.heap_setCell _ _ _ _ (by omega)
  exact(World.cell?_of_block (a:=⟨g,j*k+i,none⟩) hb).trans (h6 j hj i u hu)
def Fn1 (F:FuncId) (args:Value→Array Value) (l r:List T):Prop:= ∀(v:Value) (W:World),PL W 0 v l→Calls Tryz.prog F (args v) W (RetP W r)
def Fn2 (F:FuncId) (l m r:List T):Prop:= ∀(v u:Value) (W:World),PL W 0 v l→PL W 0 u m→Calls Tryz.prog F #[v,u] W (RetP W r)
theorem info_P2:(Tryz.prog.info? 46).map (·.size)=some 2:=by kernel_rfl
set_option maxRecDepth 20000 in
set_option maxHeartbeats 4000000 in
theorem Flow_raw {a b c:Rat} {l dx dy s1 s2 s3 s4 r1 r2:List T} (h1:Fn1 27 (fun v=> #[v]) l dx) (h2:Fn1 28 (fun v=> #[v]) l dy) (h3:Fn1 7 (fun v=> #[v,fracV a]) dx s1) (h4:Fn1 7 (fun v=> #[v,fracV b]) dy s2) (h5:Fn2 9 s1 s2 r1)
  (h6:Fn1 7 (fun v=> #[v,fracV b]) dx s3) (h7:Fn1 7 (fun v=> #[v,fracV c]) dy s4) (h8:Fn2 9 s3 s4 r2) (v:Value) (w:World) (hS:PL w 0 v l):
  Calls Tryz.prog 10 #[k3V a b c,v] w (fun e w'=> ∃v1 v2,e= .returned (.agg #[v1,v2])∧PL w' w.heap.size v1 r1∧PL w' w.heap.size v2 r2∧Gr w.heap.size w w'):=by
 have h1:=Lib.hid h1
 have h2:=Lib.hid h2
 have h3:=Lib.hid h3
 have h4:=Lib.hid h4
 have h5:=Lib.hid h5
 have h6:=Lib.hid h6
 have h7:=Lib.hid h7
 have h8:=Lib.hid h8
 have HS:=Lib.hid hS
 clear hS
 go_enter Tryz.func10,Tryz.ntmps10
 go_wp2_with fail
 (refine(h1.out v _ (by exact HS.out.gr (by(with_reducible (repeat' (first|exact Gr.refl _ _|refine Gr.drew ?_|refine Gr.setCell ?_ ?_ _|refine Gr.alloc ?_ ?_ _|omega|(simp;done)|(simp;omega))))))).mono ?_;rintro e w1 ⟨v1,rfl,hS1,hg1⟩;(try (with_reducible replace hg1:=Gr.of_drew hg1));have hsz1:=hg1.size;(try simp at hsz1);have hz1_0:w.heap.size<w1.heap.size:=(by omega);have hz1_1:w.heap.size+1<w1.heap.size:=(by omega);obtain ⟨hc1,hf1⟩:=hg1.cells;have HG1:=Lib.hid hg1;clear hg1;have HS1:=Lib.hid hS1;clear hS1)
 go_wp2_with fail
 (refine(h2.out v _ (by exact HS.out.gr (by(with_reducible (repeat' (first|exact Gr.refl _ _|refine Gr.drew ?_|refine Gr.setCell ?_ ?_ _|refine Gr.alloc ?_ ?_ _|refine Gr.trans ?_ (Gr.mono HG1.out ?_)|omega|(simp;done)|(simp;omega))))))).mono ?_;rintro e w2 ⟨v2,rfl,hS2,hg2⟩;(try (with_reducible replace hg2:=Gr.of_drew hg2));have hsz2:=hg2.size;(try simp at hsz2);have hz2_0:w.heap.size<w2.heap.size:=(by omega);have hz2_1:w.heap.size+1<w2.heap.size:=(by omega);obtain ⟨hc2,hf2⟩:=hg2.cells;have HG2:=Lib.hid hg2;clear hg2;have HS2:=Lib.hid hS2;clear hS2)
 go_wp2_with fail
 refine wp_region_held_drew (S:=(fun w'=>w'.cell? ⟨w.heap.size,0,none⟩=some (.int .u64 (lowN (sz a.num)))∧w'.cell? ⟨w.heap.size,1,none⟩=some (.string (bigS (sz a.num)))∧w'.cell? ⟨w.heap.size,2,none⟩=some (.bool (ng a.num))∧w'.cell? ⟨w.heap.size,3,none⟩=some (.int .u64 (lowN (fm a)))∧w'.cell? ⟨w.heap.size,4,none⟩=some (.string (bigS (fm a)))∧w'.cell? ⟨w.heap.size,5,none⟩=some (.int .u64 (lowN (sz b.num)))∧w'.cell? ⟨w.heap.size,6,none⟩=some (.string (bigS (sz b.num)))∧w'.cell? ⟨w.heap.size,7,none⟩=some (.bool (ng b.num))∧w'.cell? ⟨w.heap.size,8,none⟩=some (.int .u64 (lowN (fm b)))∧w'.cell? ⟨w.heap.size,9,none⟩=some (.string (bigS (fm b)))∧w'.cell? ⟨w.heap.size,10,none⟩=some (.int .u64 (lowN (sz c.num)))∧w'.cell? ⟨w.heap.size,11,none⟩=some (.string (bigS (sz c.num)))∧w'.cell? ⟨w.heap.size,12,none⟩=some (.bool (ng c.num))∧w'.cell? ⟨w.heap.size,13,none⟩=some (.int .u64 (lowN (fm c)))∧w'.cell? ⟨w.heap.size,14,none⟩=some (.string (bigS (fm c))))) (by kernel_rfl) ?_ (fun hHeld=>?_)
 ·simp [go_sem, *]
 refine tk 0 (some 11) (v1) ?_
 try simp only [pS]
 refine tk 1 (some 12) (.pointer (some ⟨w.heap.size,0,none⟩)) ?_
 try simp only [pS]
 refine tk 2 (some 13) (fracV a) ?_
 try simp only [pS]
 refine tk 4 (some 15) (v2) ?_
 try simp only [pS]
 refine tk 5 (some 16) (.pointer (some ⟨w.heap.size,5,none⟩)) ?_
 try simp only [pS]
 refine tk 6 (some 17) (fracV b) ?_
 try simp only [pS]
 refine tk 9 (some 20) (v1) ?_
 try simp only [pS]
 refine tk 10 (some 21) (.pointer (some ⟨w.heap.size,5,none⟩)) ?_
 try simp only [pS]
 refine tk 11 (some 22) (fracV b) ?_
 try simp only [pS]
 refine tk 13 (some 24) (v2) ?_
 try simp only [pS]
 refine tk 14 (some 25) (.pointer (some ⟨w.heap.size,10,none⟩)) ?_
 try simp only [pS]
 refine tk 15 (some 26) (fracV c) ?_
 try simp only [pS]
 refine rd 3 (fun K hK=>?_)
 go_simp
 (refine(h3.out v1 _ (by exact(HS1.out.mono (Nat.zero_le _)).gr (by(with_reducible (repeat' (first|exact Gr.refl _ _|refine Gr.drew ?_|refine Gr.setCell ?_ ?_ _|refine Gr.alloc ?_ ?_ _|refine Gr.trans ?_ (Gr.mono HG2.out ?_)|omega|(simp;done)|(simp;omega))))))).mono ?_;rintro e w3 ⟨v3,rfl,hS3,hg3⟩;(try (with_reducible replace hg3:=Gr.of_drew hg3));have hsz3:=hg3.size;(try simp at hsz3);have hz3_0:w.heap.size<w3.heap.size:=(by omega);have hz3_1:w.heap.size+1<w3.heap.size:=(by omega);obtain ⟨hc3,hf3⟩:=hg3.cells;have HG3:=Lib.hid hg3;clear hg3;have HS3:=Lib.hid hS3;clear hS3)
 (try dsimp only)
 refine hK.out _ _ ?_ (fun hH2=>?_)
 ·(first|exact trivial|((try dsimp only);simp [go_sem, *]))
 clear hK K hHeld
 try simp only [pS]
 refine rd 7 (fun K hK=>?_)
 go_simp
 (refine(h4.out v2 _ (by exact(HS2.out.mono (Nat.zero_le _)).gr (by(with_reducible (repeat' (first|exact Gr.refl _ _|refine Gr.drew ?_|refine Gr.setCell ?_ ?_ _|refine Gr.alloc ?_ ?_ _|refine Gr.trans ?_ (Gr.mono HG3.out ?_)|omega|(simp;done)|(simp;omega))))))).mono ?_;rintro e w4 ⟨v4,rfl,hS4,hg4⟩;(try (with_reducible replace hg4:=Gr.of_drew hg4));have hsz4:=hg4.size;(try simp at hsz4);have hz4_0:w.heap.size<w4.heap.size:=(by omega);have hz4_1:w.heap.size+1<w4.heap.size:=(by omega);obtain ⟨hc4,hf4⟩:=hg4.cells;have HG4:=Lib.hid hg4;clear hg4;have HS4:=Lib.hid hS4;clear hS4)
 (try dsimp only)
 refine hK.out _ _ ?_ (fun hH3=>?_)
 ·(first|exact trivial|((try dsimp only);simp [go_sem, *]))
 clear hK K hH2
 try simp only [pS]
 refine rd 8 (fun K hK=>?_)
 go_simp
 (refine(h5.out v3 v4 _ (by exact(HS3.out.mono (Nat.zero_le _)).gr (by(with_reducible (repeat' (first|exact Gr.refl _ _|refine Gr.drew ?_|refine Gr.setCell ?_ ?_ _|refine Gr.alloc ?_ ?_ _|refine Gr.trans ?_ (Gr.mono HG4.out ?_)|omega|(simp;done)|(simp;omega)))))) (by exact(HS4.out.mono (Nat.zero_le _)).gr (by(with_reducible (repeat' (first|exact Gr.refl _ _|refine Gr.drew ?_|refine Gr.setCell ?_ ?_ _|refine Gr.alloc ?_ ?_ _|omega|(simp;done)|(simp;omega))))))).mono ?_;rintro e w5 ⟨v5,rfl,hS5,hg5⟩;(try (with_reducible replace hg5:=Gr.of_drew hg5));have hsz5:=hg5.size;(try simp at hsz5);have hz5_0:w.heap.size<w5.heap.size:=(by omega);have hz5_1:w.heap.size+1<w5.heap.size:=(by omega);obtain ⟨hc5,hf5⟩:=hg5.cells;have HG5:=Lib.hid hg5;clear hg5;have HS5:=Lib.hid hS5;clear hS5)
 (try dsimp only)
 refine hK.out _ _ ?_ (fun hH4=>?_)
 ·(first|exact trivial|((try dsimp only);simp [go_sem, *]))
 clear hK K hH3
 try simp only [pS]
 refine rd 12 (fun K hK=>?_)
 go_simp
 (refine(h6.out v1 _ (by exact(HS1.out.mono (Nat.zero_le _)).gr (by(with_reducible (repeat' (first|exact Gr.refl _ _|refine Gr.drew ?_|refine Gr.setCell ?_ ?_ _|refine Gr.alloc ?_ ?_ _|refine Gr.trans ?_ (Gr.mono HG5.out ?_)|refine Gr.trans ?_ (Gr.mono HG4.out ?_)|refine Gr.trans ?_ (Gr.mono HG3.out ?_)|refine Gr.trans ?_ (Gr.mono HG2.out ?_)|omega|(simp;done)|(simp;omega))))))).mono ?_;rintro e w6 ⟨v6,rfl,hS6,hg6⟩;(try (with_reducible replace hg6:=Gr.of_drew hg6));have hsz6:=hg6.size;(try simp at hsz6);have hz6_0:w.heap.size<w6.heap.size:=(by omega);have hz6_1:w.heap.size+1<w6.heap.size:=(by omega);obtain ⟨hc6,hf6⟩:=hg6.cells;have HG6:=Lib.hid hg6;clear hg6;have HS6:=Lib.hid hS6;clear hS6)
 (try dsimp only)
 refine hK.out _ _ ?_ (fun hH5=>?_)
 ·(first|exact trivial|((try dsimp only);simp [go_sem, *]))
 clear hK K hH4
 try simp only [pS]
 refine rd 16 (fun K hK=>?_)
 go_simp
 (refine(h7.out v2 _ (by exact(HS2.out.mono (Nat.zero_le _)).gr (by(with_reducible (repeat' (first|exact Gr.refl _ _|refine Gr.drew ?_|refine Gr.setCell ?_ ?_ _|refine Gr.alloc ?_ ?_ _|refine Gr.trans ?_ (Gr.mono HG6.out ?_)|refine Gr.trans ?_ (Gr.mono HG5.out ?_)|refine Gr.trans ?_ (Gr.mono HG4.out ?_)|refine Gr.trans ?_ (Gr.mono HG3.out ?_)|omega|(simp;done)|(simp;omega))))))).mono ?_;rintro e w7 ⟨v7,rfl,hS7,hg7⟩;(try (with_reducible replace hg7:=Gr.of_drew hg7));have hsz7:=hg7.size;(try simp at hsz7);have hz7_0:w.heap.size<w7.heap.size:=(by omega);have hz7_1:w.heap.size+1<w7.heap.size:=(by omega);obtain ⟨hc7,hf7⟩:=hg7.cells;have HG7:=Lib.hid hg7;clear hg7;have HS7:=Lib.hid hS7;clear hS7)
 (try dsimp only)
 refine hK.out _ _ ?_ (fun hH6=>?_)
 ·(first|exact trivial|((try dsimp only);simp [go_sem, *]))
 clear hK K hH5
 try simp only [pS]
 refine rd 17 (fun K hK=>?_)
 go_simp
 (refine(h8.out v6 v7 _ (by exact(HS6.out.mono (Nat.zero_le _)).gr (by(with_reducible (repeat' (first|exact Gr.refl _ _|refine Gr.drew ?_|refine Gr.setCell ?_ ?_ _|refine Gr.alloc ?_ ?_ _|refine Gr.trans ?_ (Gr.mono HG7.out ?_)|omega|(simp;done)|(simp;omega)))))) (by exact(HS7.out.mono (Nat.zero_le _)).gr (by(with_reducible (repeat' (first|exact Gr.refl _ _|refine Gr.drew ?_|refine Gr.setCell ?_ ?_ _|refine Gr.alloc ?_ ?_ _|omega|(simp;done)|(simp;omega))))))).mono ?_;rintro e w8 ⟨v8,rfl,hS8,hg8⟩;(try (with_reducible replace hg8:=Gr.of_drew hg8));have hsz8:=hg8.size;(try simp at hsz8);have hz8_0:w.heap.size<w8.heap.size:=(by omega);have hz8_1:w.heap.size+1<w8.heap.size:=(by omega);obtain ⟨hc8,hf8⟩:=hg8.cells;have HG8:=Lib.hid hg8;clear hg8;have HS8:=Lib.hid hS8;clear hS8)
 (try dsimp only)
 refine hK.out _ _ ?_ (fun hH7=>?_)
 ·(first|exact trivial|((try dsimp only);simp [go_sem, *]))
 clear hK K hH6
 try simp only [pS]
 obtain ⟨a5,c5,rfl⟩:=HS5.out.at
 obtain ⟨a8,c8,rfl⟩:=HS8.out.at
 refine tk 18 (some 29) (.agg #[.slice a5 r1.length c5,.slice a8 r2.length c8]) ?_
 try simp only [pS]
 refine rd 19 (fun K hK=>?_)
 go_simp
 (try dsimp only)
 refine hK.out _ _ ?_ (fun hH8=>?_)
 ·(first|exact trivial|((try dsimp only);simp [go_sem, *]))
 clear hK K hH7
 try simp only [pS]
 refine wpAnyH_done (by kernel_rfl) ?_ _
 go_wp2
 refine ret_row (g:=w.heap.size+1) Tryz.results10 rfl (VB.set (cs:= [.slice none 0 0,.slice none 0 0]) ?_ [.slice a5 r1.length c5,.slice a8 r2.length c8] rfl) Tryz.underlying46 rfl info_P2 rfl ⟨_,_,rfl,?_,?_,?_⟩
 ·(with_reducible (repeat' (first|(refine VB.new' ?_;exact(by first|omega|(simp;done)|(simp;omega)))|apply VB.put2|apply VB.put3|apply VB.put5|refine VB.drew ?_|refine VB.far ?_ ?_ _|refine VB.alloc ?_ _|refine VB.gr ?_ HG8.out ?_|refine VB.gr ?_ HG7.out ?_|refine VB.gr ?_ HG6.out ?_|refine VB.gr ?_ HG5.out ?_|refine VB.gr ?_ HG4.out ?_|refine VB.gr ?_ HG3.out ?_|refine VB.gr ?_ HG2.out ?_|refine VB.gr ?_ HG1.out ?_|omega|(simp;done)|(simp;omega))))
 ·exact SL.mono (SL.far (SL.far (HS5.out.gr (w':=w8) (by(with_reducible (repeat' (first|exact Gr.refl _ _|refine Gr.drew ?_|refine Gr.setCell ?_ ?_ _|refine Gr.alloc ?_ ?_ _|refine Gr.trans ?_ (Gr.mono HG8.out ?_)|refine Gr.trans ?_ (Gr.mono HG7.out ?_)|refine Gr.trans ?_ (Gr.mono HG6.out ?_)|omega|(simp;done)|(simp;omega)))))) (by first|omega|(simp;done)|(simp;omega)) _) (by first|omega|(simp;done)|(simp;omega)) _) (by first|omega|(simp;done)|(simp;omega))
 ·exact SL.mono (SL.far (SL.far HS8.out (by first|omega|(simp;done)|(simp;omega)) _) (by first|omega|(simp;done)|(simp;omega)) _) (by first|omega|(simp;done)|(simp;omega))
 ·(with_reducible (repeat' (first|exact Gr.refl _ _|refine Gr.drew ?_|refine Gr.setCell ?_ ?_ _|refine Gr.alloc ?_ ?_ _|refine Gr.trans ?_ (Gr.mono HG8.out ?_)|refine Gr.trans ?_ (Gr.mono HG7.out ?_)|refine Gr.trans ?_ (Gr.mono HG6.out ?_)|refine Gr.trans ?_ (Gr.mono HG5.out ?_)|refine Gr.trans ?_ (Gr.mono HG4.out ?_)|refine Gr.trans ?_ (Gr.mono HG3.out ?_)|refine Gr.trans ?_ (Gr.mono HG2.out ?_)|refine Gr.trans ?_ (Gr.mono HG1.out ?_)|omega|(simp;done)|(simp;omega))))
def flow1 (a b:Rat) (l:List T):List T:=addL (scaleL a (dxL l)) (scaleL b (dyL l))
theorem ok_flow1 {a b:Rat} {l:List T} (h:∀t∈l,t.ok):∀t∈flow1 a b l,t.ok:=ok_addL (ok_scaleL (ok_dxL h)) (ok_scaleL (ok_dyL h))
theorem tot_flow1 {a b:Rat} {l:List T} (h:∀t∈l,t.ok):tot (flow1 a b l)≤tot l*(3*(hw a+hw b+2)):=by
 unfold flow1
 have h1:=tot_addL (scaleL a (dxL l)) (scaleL b (dyL l))
 have h2:=tot_scaleL a (dxL l);have h3:=tot_scaleL b (dyL l)
 have h4:=Nat.mul_le_mul_right (hw a+1) (tot_dxL h)
 have h5:=Nat.mul_le_mul_right (hw b+1) (tot_dyL h)
 have e:tot l*(3*(hw a+hw b+2))=tot l*3*(hw a+1)+tot l*3*(hw b+1):=by rw [←Nat.mul_add,Nat.mul_assoc];congr 2;omega
 omega
theorem pr_Flow (a b c:Rat) (l:List T) (v:Value) (w:World) (hS:PL w 0 v l) (hok:∀t∈l,t.ok) (ht:tot l*(3*(hw a+hw b+hw c+4))≤100000000000):
  Calls Tryz.prog 10 #[k3V a b c,v] w (fun e w'=> ∃v1 v2,e= .returned (.agg #[v1,v2])∧PL w' w.heap.size v1 (flow1 a b l)∧PL w' w.heap.size v2 (flow1 b c l)∧Gr w.heap.size w w'):=by
 have hm:∀q,q≤hw a+hw b+hw c+4→tot l*3*q≤100000000000:=fun q hq=>by
  have:=Nat.mul_le_mul_left (tot l) (Nat.mul_le_mul_left 3 hq)
  rw [Nat.mul_assoc];omega
 have h1:=hm 1 (by omega)
 have hx:=tot_dxL hok;have hy:=tot_dyL hok
 have sc:∀(q:Rat) (m:List T),hw q+2≤hw a+hw b+hw c+4→tot m≤tot l*3→tot m*(hw q+2)≤100000000000:=fun q m h2 h3=>
  Nat.le_trans (Nat.mul_le_mul_right _ h3) (hm _ h2)
 have ad:∀(q r:Rat) (m n:List T),hw q+hw r+2≤hw a+hw b+hw c+4→tot m≤tot l*3→tot n≤tot l*3→tot (scaleL q m)+tot (scaleL r n)≤100000000000:=fun q r m n h2 h3 h4=>by
  have h5:=tot_scaleL q m;have h6:=tot_scaleL r n
  have h7:=Nat.mul_le_mul_right (hw q+1) h3;have h8:=Nat.mul_le_mul_right (hw r+1) h4
  have h9:=hm (hw q+hw r+2) h2
  have e:tot l*3*(hw q+hw r+2)=tot l*3*(hw q+1)+tot l*3*(hw r+1):=by rw [←Nat.mul_add];congr 1;omega
  omega
 exact Flow_raw (fun v W h=>po_Dx l v W h hok (by omega)) (fun v W h=>po_Dy l v W h hok (by omega))
  (fun v W h=>po_Scale a (dxL l) v W h (ok_dxL hok) (sc a _ (by omega) hx)) (fun v W h=>po_Scale b (dyL l) v W h (ok_dyL hok) (sc b _ (by omega) hy))
  (fun v u W h h2=>po_Add _ _ v u W h h2 (ok_scaleL (ok_dxL hok)) (ok_scaleL (ok_dyL hok)) (ad a b _ _ (by omega) hx hy))
  (fun v W h=>po_Scale b (dxL l) v W h (ok_dxL hok) (sc b _ (by omega) hx)) (fun v W h=>po_Scale c (dyL l) v W h (ok_dyL hok) (sc c _ (by omega) hy))
  (fun v u W h h2=>po_Add _ _ v u W h h2 (ok_scaleL (ok_dxL hok)) (ok_scaleL (ok_dyL hok)) (ad b c _ _ (by omega) hx hy)) v w hS
end Go.Proofs.YtmelogdhllhjiaaGreat
