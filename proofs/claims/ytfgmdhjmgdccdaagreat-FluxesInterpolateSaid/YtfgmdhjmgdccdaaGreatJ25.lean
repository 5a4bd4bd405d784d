/-
  Part 25 of the proof: PolC PolD PolE.
-/
import Derived.Test.YtfgmdhjmgdccdaaGreatJ24
import Derived.Lib.SliceRun
import Derived.Test.YtfgmdhjmgdccdaaGreatShelfB
set_option linter.unusedSimpArgs false
set_option linter.unusedVariables false
set_option maxHeartbeats 8000000
namespace Go.Proofs.YtfgmdhjmgdccdaaGreat
open Go.RowKit Gus
def TellsAll {α:Type} (enc:α→Value) (F:FuncId) (cb:Array Value) (p:α→Bool):Prop:=
 (∀args w,(callFunc F args).run Tryz.prog w= .ok (.enter F args) w)∧∀(W:World) x,Calls Tryz.prog F (#[enc x]++cb) W (Ret W (.bool (p x)))
theorem PL.gr {w w':World} {B:Nat} {v:Value} {l:List T} (h:PL w B v l) (hg:Gr w.heap.size w w'):PL w' B v l:=SL.gr h hg
set_option maxRecDepth 20000 in
set_option maxHeartbeats 4000000 in
theorem del_Term {p:T→Bool} {F:FuncId} {cb:Array Value} (l:List T) (B g cap:Nat) (w:World) (hS:PL w B (.slice (some ⟨g,0,none⟩) l.length cap) l) (hB:B≤w.heap.size) (hp:TellsAll tV F cb p):
  Calls Tryz.prog 86 #[.slice (some ⟨g,0,none⟩) l.length cap,.func (.func F) #[] cb] w (fun e w'=> ∃v',e= .returned v'∧PL w' B v' (l.filter fun t=> !p t)∧Gr B w w'):=by
 obtain ⟨eg,hp⟩:=hp
 obtain ⟨g',cap',e1,hBg,hcap,hcm,hsh,hR⟩:∃g' cap',Value.slice (some ⟨g,0,none⟩) l.length cap= .slice (some ⟨g',0,none⟩) l.length cap'∧B≤g'∧l.length≤cap'∧cap'≤maxLen∧Sh w g' 111 (cap'*7)∧RC tC 7 w g' l:=by
  rcases hS with⟨h,_⟩|h
  ·cases h
  ·exact h
 cases e1
 have hglt:=hsh.lt
 have hl:l.length≤maxLen:=by omega
 have hIX:=Lh (index_Term l g cap w hR hglt hl ⟨eg,fun W _ x=>hp W x⟩)
 have HP:=Lh hp
 have HS:=Lh hS
 have hl2:(l.length:Int)≤9223372036854775807:=by simp only [maxLen]at hl;omega
 have hl3:(l.length:Int)≤(cap:Int):=by omega
 have hl4:(cap:Int)≤9223372036854775807:=by simp only [maxLen]at hcm;omega
 have HB:=Lh hB
 clear hR hp hl hS hsh hB
 cases hfi:l.findIdx? p with
 | none=>
  have e:idxP p l= -1:=by unfold idxP;rw [hfi]
  rw [e]at hIX
  have HF:=Lh hfi
  clear e hfi
  go_enter Tryz.func86,Tryz.ntmps86
  go_wp2_with fail
  (refine rtu (hIX.out) fun w1 hsz1 hl1 hc1 hf1 HG1=>?_;(try simp at hsz1))
  go_wp2
  go_ret
  refine⟨_,rfl,?_,HG1.out.mono HB.out⟩
  have e:l.filter (fun t=> !p t)=l:=List.filter_eq_self.2 fun t ht=>by
   have:=List.findIdx?_eq_none_iff.1 HF.out t ht
   simp [this]
  rw [e]
  exact HS.out.gr HG1.out
 | some i0=>
  obtain ⟨hi0,hp0,hb0⟩:=List.findIdx?_eq_some_iff_getElem.1 hfi
  have e:idxP p l=i0:=by unfold idxP;rw [hfi]
  rw [e]at hIX
  have HF:=Lh (And.intro hp0 hb0)
  have hne1:((i0:Int) == -1)=false:=beq_eq_false_iff_ne.2 (by omega)
  clear e hfi hp0 hb0
  go_enter Tryz.func86,Tryz.ntmps86
  go_wp2_with fail
  (refine rtu (hIX.out) fun w1 hsz1 hl1 hc1 hf1 HG1=>?_;(try simp at hsz1))
  go_wp2
  go_loopw [5,6] (fun s5 s6 wr=> ∃(i j:Nat) (L:List T),s5= .int .i64 i∧s6= .int .i64 j∧i<j∧j≤l.length∧L.length=l.length∧Hid (L.take i=(l.take j).filter fun t=> !p t)∧Hid (L.drop j=l.drop j)∧Hid (PL wr B (.slice (some ⟨g,0,none⟩) l.length cap) L)∧Hid (Gr B w wr)∧g<wr.heap.size) (fun _ s _=>l.length - (intOf s).toNat)
  case atStart=>
   refine⟨i0,i0+1,l,rfl,by go_num,by omega,by omega,rfl,?_,rfl,HS.out.gr HG1.out,HG1.out.mono HB.out,by omega⟩
   show _=_
   rw [List.take_succ_eq_append_getElem hi0,List.filter_append]
   have h1:(l.take i0).filter (fun t=> !p t)=l.take i0:=List.filter_eq_self.2 fun t ht=>by
    obtain ⟨i,hi,rfl⟩:=List.getElem_of_mem ht
    have:=HF.out.2 i (by simp at hi;omega)
    rw [List.getElem_take]
    simpa using this
   rw [h1]
   simp [HF.out.1]
  case round=>
   obtain ⟨i,j,L,rfl,rfl,hij,hj,hL,hA,hD,HSr,HGr,hgr⟩:=hrel
   obtain ⟨hshr,hRr⟩:Sh wr g 111 (cap*7)∧RC tC 7 wr g L:=by
    rcases HSr.out with⟨h,_⟩|⟨g',cap',e1,_,_,_,h5,h6⟩
    ·cases h
    ·injection e1 with e1 _ e2;injection e1 with e1;injection e1 with e1;subst e1 e2;exact⟨h5,h6⟩
   by_cases hlt:j<l.length
   ·obtain ⟨y,hy⟩:∃y,L[j]=y:=⟨_,rfl⟩
    have hly:l[j]=y:=by
     have:=congrArg (fun x=>x[0]?) hD.out
     simp only [List.getElem?_drop,Nat.add_zero]at this
     rw [List.getElem?_eq_getElem (by omega),List.getElem?_eq_getElem hlt]at this
     rw [←hy];exact(Option.some.inj this).symm
    obtain ⟨v0,v1,v2,v3,v4,v5,v6⟩:=hRr.term (by omega) hy
    obtain ⟨a0,a1,a2,a3,a4,a5,a6⟩:=hRr.term (j:=i) (by omega) rfl
    have hfr:=hshr.frozen
    have HC:=Lh (fun W=>HP.out W y)
    have HY:=Lh (And.intro hy hly)
    have HRr:=Lh (And.intro hshr hRr)
    clear hy hly hshr hRr
    have hne:¬g=wr.heap.size:=by omega
    have hne2:¬wr.heap.size=g:=by omega
    have hj0:(0:Int)≤(i:Int):=by omega
    have hj1:(i:Int)<(l.length:Int):=by omega
    have hj2:(j:Int)<(l.length:Int):=by omega
    cases hq:p y with
    | true=>
     rw [hq]at HC
     go_wp2_with (go_at_fn F;refine(HC.out _).mono ?_;rintro e w2 ⟨rfl,hg2⟩;have hsz2:=hg2.size;(try simp at hsz2);have HG2:=Lh hg2;clear hg2)
     go_roundw
     case rel=>
      have hgr2:Gr wr.heap.size wr w2:=by exact gcc HG2 gzz
      refine⟨i,j+1,L,rfl,by go_num,by omega,by omega,hL,?_,?_,HSr.out.gr hgr2,HGr.out.trans (hgr2.mono (by have:=HGr.out.size;have:=HB.out;omega)),by omega⟩
      ·show _=_
       rw [hA.out,List.take_succ_eq_append_getElem hlt,List.filter_append,HY.out.2]
       simp [hq]
      ·show _=_
       rw [←List.drop_drop,←List.drop_drop,hD.out]
     case measure=>simp [intOf];omega
    | false=>
     rw [hq]at HC
     have hg3:g<wr.heap.size+1:=by omega
     go_wp2_with (go_at_fn F;refine(HC.out _).mono ?_;rintro e w2 ⟨rfl,hg2⟩;have hsz2:=hg2.size;(try simp at hsz2);obtain ⟨hc2,hf2⟩:=hg2.cells;have HG2:=Lh hg2;clear hg2)
     go_roundw
     case rel=>
      have hgr2:Gr wr.heap.size wr w2:=by exact gcc HG2 gzz
      have hS2:=HSr.out.gr hgr2
      rw [show l.length=L.length from hL.symm]at hS2
      have hput:=SL.put hS2 tC_len (j:=i) (by omega) y 0 (tC y) (by simp) (by simp)
      rw [hL]at hput
      have hBw:B≤wr.heap.size:=by have:=HGr.out.size;have:=HB.out;omega
      refine⟨i+1,j+1,L.set i y,by go_num,by go_num,by omega,by omega,by simpa using hL,?_,?_,hput,Gr.sets hBg (tC y) (i*7) (HGr.out.trans (hgr2.mono hBw)),?_⟩
      ·show _=_
       rw [List.take_succ_eq_append_getElem (by simpa using (by omega:i<L.length)),List.take_succ_eq_append_getElem hlt,List.filter_append,HY.out.2,List.getElem_set_self,List.take_set_of_le (Nat.le_refl _),hA.out]
       simp [hq]
      ·show _=_
       rw [List.drop_set_of_lt (by omega),←List.drop_drop,←List.drop_drop,hD.out]
      ·simp [World.setCell];omega
     case measure=>simp [intOf];omega
   ·obtain rfl:j=l.length:=by omega
    have hcl:∀ty,(Builtin.clear_ #[46] ty #[.slice (some ⟨g,i*7,none⟩) (l.length - i) (cap - i)]).run Tryz.prog wr= .ok (.tuple #[]) (wr.setCells g (i*7) (Builtin.zeroCells _ (l.length - i)).toList):=fun ty=>
     run_clear_rows wr 46 111 ty _ Tryz.underlying46 Tryz.zeroValue111 7 rfl (by decide) g (i*7) (l.length - i) (cap - i) (by omega) (by omega) (fun q hq=>hshr.some (by omega)) (fun q hq=>hshr.frozen _)
    generalize (Builtin.zeroCells _ (l.length - i)).toList=cs at hcl
    have HRr:=Lh (And.intro hshr hRr)
    clear hshr hRr
    have hj0:(0:Int)≤(i:Int):=by omega
    have hj1:(i:Int)≤(l.length:Int):=by omega
    have hj3:(i:Int)≤(cap:Int):=by omega
    go_wp2
    go_ret
    have hBw:B≤wr.heap.size:=by have:=HGr.out.size;have:=HB.out;omega
    have e:L.take i=l.filter fun t=> !p t:=by rw [hA.out,List.take_length]
    refine⟨.slice (some ⟨g,0,none⟩) i cap,rfl,?_,Gr.sets hBg cs (i*7) HGr.out⟩
    rw [←e]
    refine .inr ⟨g,cap,by rw [List.length_take,Nat.min_eq_left (by omega)],hBg,by rw [List.length_take];omega,hcm,HRr.out.1.sets _ _ _,fun q hq q2 u hu=>?_⟩
    rw [World.cell?_setCells_out g cs _ wr _ (fun _ _=>by
     left
     show q*7+q2<i*7
     have h1:=(List.getElem?_eq_some_iff.1 hu).1
     rw [tC_len]at h1
     simp at hq
     omega)]
    exact(HRr.out.2.take i) q hq q2 u hu
end Go.Proofs.YtfgmdhjmgdccdaaGreat
namespace Go.Proofs.YtfgmdhjmgdccdaaGreat
open Go.RowKit Gus
theorem swo_T:Sort.SWO (ltOf ordW):=by
 have e:∀a b,ltOf ordW a b=decide (degW a<degW b∨degW a=degW b∧a.j<b.j):=fun a b=>decide_eq_decide.2 (ordW_lt a b)
 refine⟨fun x=>?_,fun x y z=>?_,fun x y z=>?_⟩
 ·rw [e];simp
 ·rw [e,e,e];simp only [decide_eq_true_eq];omega
 ·rw [e,e,e];simp only [decide_eq_false_iff_not];omega
set_option maxRecDepth 20000 in
set_option maxHeartbeats 4000000 in
theorem sort_Term_nil (fv:Value) (w:World):Calls Tryz.prog 89 #[.slice none 0 0,fv] w (Ret w (.tuple #[])):=by
 have hL:=fun W=>Tryz.bits_Len 0 W (by omega) (by omega)
 have hP:=fun lim W=>AnyF.pdqsortCmpFunc_none Tryz.pdqTerm none 0 lim fv W
 go_enter Tryz.func89,Tryz.ntmps89
 go_wp2_with (first|(go_at_call 111;refine(hL _).mono ?_;rintro e w1 ⟨rfl,rfl⟩)|(go_at_call 128;refine(hP _ _).mono ?_;rintro e w2 ⟨rfl,rfl⟩))
 go_end0
 exact⟨rfl,Gr.refl _ _⟩
set_option maxRecDepth 20000 in
set_option maxHeartbeats 4000000 in
theorem sort_Term {F:FuncId} {cb:Array Value} (l:List T) (B g cap:Nat) (w:World) (hS:PL w B (.slice (some ⟨g,0,none⟩) l.length cap) l) (hB:B≤w.heap.size) (hl:l.length<4611686018427387904) (hp:Orders tV F cb ordW):
  Calls Tryz.prog 89 #[.slice (some ⟨g,0,none⟩) l.length cap,.func (.func F) #[] cb] w (fun e w'=>e= .returned (.tuple #[])∧∃l':List T,l'.Perm l∧(l'.Pairwise fun a b=> ¬ordW b a<0)∧PL w' B (.slice (some ⟨g,0,none⟩) l.length cap) l'∧Gr B w w'):=by
 obtain ⟨g',cap',e1,hBg,hcap,hcm,hsh,hR⟩:∃g' cap',Value.slice (some ⟨g,0,none⟩) l.length cap= .slice (some ⟨g',0,none⟩) l.length cap'∧B≤g'∧l.length≤cap'∧cap'≤maxLen∧Sh w g' 111 (cap'*7)∧RC tC 7 w g' l:=by
  rcases hS with⟨h,_⟩|h
  ·cases h
  ·exact h
 cases e1
 have hglt:=hsh.lt
 have hH:Sort.HoldsK tC 7 w g 0 l.toArray:=hR.holds tC_len hsh.frozen
 have hlim:Lib.bitLen l.length<4611686018427387904:=Nat.lt_of_le_of_lt (Lib.bitLen_le l.length 62 (by omega) (by omega)) (by omega)
 have h1:∀x:T,∀v∈tC x,v.oneCell'=true:=by
  intro x v hv
  simp only [tC,List.mem_cons,List.not_mem_nil,or_false]at hv
  rcases hv with rfl|rfl|rfl|rfl|rfl|rfl|rfl<;>rfl
 have hP:Calls Tryz.prog 128 #[.slice (some ⟨g,0,none⟩) l.length cap,.int .i64 0,.int .i64 l.length,.int .i64 (Lib.bitLen l.length),.func (.func F) #[] cb] w (fun e w'=>e= .returned (.tuple #[])∧SWK tC 7 w g 0 (Sort.pdq (ltOf ordW) l.toArray 0 l.length (Lib.bitLen l.length) true true) w'):=
  AnyQ.pdqsortCmpFunc_all Tryz.pdqTerm 7 Tryz.isAgg111 Tryz.sizeOf111 tC ordW F cb swo_T g 0 cap l.toArray w hp.1 (hp.lays g 0 _ w) ⟨tC_len,h1,hH,hglt⟩ (l.length+1) 0 l.length (Lib.bitLen l.length) l.toArray w (by omega) rfl (SWK.start hH) (Nat.zero_le _) (Nat.le_refl _) hl hlim (Or.inl rfl)
 have hD:=Lh (Sort.pdq_sorts (ltOf ordW) swo_T l.toArray 0 l.length (Lib.bitLen l.length) true true (Nat.zero_le _) (Nat.le_refl _) (Or.inl rfl))
 generalize Sort.pdq (ltOf ordW) l.toArray 0 l.length (Lib.bitLen l.length) true true=d at *
 have hL:Calls Tryz.prog 111 #[.int .u64 (l.length:Int)] w fun e w'=>e= .returned (.int .i64 (Lib.bitLen l.length:Nat))∧w'=w:=by
  have h:=Tryz.bits_Len (l.length:Int) w (by omega) (by omega)
  rwa [Int.toNat_natCast]at h
 have wr:IntKind.u64.wrap (l.length:Int)=l.length:=by simp [IntKind.wrap,IntKind.bits,IntKind.signed];omega
 have HS:=Lh hS
 have HB:=Lh hB
 clear hS hp hH h1 hR hsh hB
 go_enter Tryz.func89,Tryz.ntmps89
 go_wp2_with (first|(go_at_call 111;refine hL.mono ?_;rintro e w1 ⟨rfl,rfl⟩)|(go_at_call 128;refine hP.mono ?_;rintro e w2 ⟨rfl,n,os,rfl⟩))
 go_end0
 have hd:=hD.out.1
 have hsz:d.size=l.length:=hd.1
 refine⟨rfl,d.toList,?_,?_,SL.sorted HS.out tC_len n d hsz os,Gr.sorted hBg hglt n d os⟩
 ·have:=hd.2.2
  have e1:d.extract 0 l.length=d:=by rw [←hsz];simp
  rw [e1]at this
  simpa using this
 ·rw [List.pairwise_iff_getElem]
  intro i j hi hj hij
  have:=hD.out.2 i j (Nat.zero_le _) hij (by simp at hj;omega)
  have hi':i<d.size:=by simpa using hi
  have hj':j<d.size:=by simpa using hj
  rw [getElem!_pos d j hj',getElem!_pos d i hi']at this
  simpa [ltOf] using this
end Go.Proofs.YtfgmdhjmgdccdaaGreat
namespace Go.Proofs.YtfgmdhjmgdccdaaGreat
open Go.RowKit Gus Go.Maps
section
variable {w w' w2:World} {row:Option Nat} {B:Nat}
end
section
variable {P:Program} (w:World) {ops:Array Oper} {rest:List Oper} {o:Oper} {a:Act} {Q:Exit→Act→World→Prop}
end
theorem key_all:((List.range 13).map fun (i:Nat)=>(List.range 13).map fun (j:Nat)=>keyOf Tryz.prog 164 (.agg #[.int .i64 (i:Int),.int .i64 (j:Int)]))=((List.range 13).map fun (i:Nat)=>(List.range 13).map fun (j:Nat)=>some (klT i j)):=by kernel_rfl
theorem keyOf_T {i j:Nat} (hi:i≤12) (hj:j≤12):keyOf Tryz.prog 164 (.agg #[.int .i64 (i:Int),.int .i64 (j:Int)])=some (klT i j):=by
 have h:=congrArg (fun l=>(l[i]?).bind fun r=>r[j]?) key_all
 simpa [List.getElem?_map,List.getElem?_range,show i<13 by omega,show j<13 by omega] using h
theorem powerK:Keyed Tryz.prog 164:=Keyed.of_law (deep_law_laid (m:=9) (by kernel_rfl) (by omega) (of_decide_eq_true (by kernel_rfl)) (by kernel_rfl) (by kernel_rfl))
theorem klT_inj {i j i' j':Nat} (hi:i≤12) (hj:j≤12) (hi':i'≤12) (hj':j'≤12) (h:klT i j=klT i' j'):i=i'∧j=j':=by
 have h1:=keyOf_T hi hj
 rw [h]at h1
 have:=powerK.inj h1 (keyOf_T hi' hj')
 simp at this
 omega
def idxT (acc:List T) (i j:Nat):Option Nat:=acc.findIdx? fun t=>t.at i j
theorem idxT_lt {acc:List T} {i j k:Nat} (h:idxT acc i j=some k):∃hk:k<acc.length,acc[k].i=i∧acc[k].j=j:=by
 obtain ⟨hk,h1,_⟩:=List.findIdx?_eq_some_iff_getElem.1 h
 exact⟨hk,T.at_iff.1 h1⟩
theorem idxT_app (acc:List T) (x:T) (i j:Nat):idxT (acc++ [x]) i j=(idxT acc i j).or (if x.at i j then some acc.length else none):=by
 unfold idxT
 rw [List.findIdx?_append]
 congr 1
 cases h:x.at i j<;>simp [h]
theorem idxT_set (acc:List T) (k:Nat) (hk:k<acc.length) (c:Rat) (i j:Nat):idxT (acc.set k ⟨acc[k].i,acc[k].j,c⟩) i j=idxT acc i j:=by
 have e:∀l:List T,idxT l i j=(l.map fun t=>(t.i,t.j)).findIdx? fun p=>p.1 == i && p.2 == j:=fun l=>by
  unfold idxT;rw [List.findIdx?_map];rfl
 rw [e,e,List.map_set]
 congr 1
 refine List.ext_getElem (by simp) fun q h1 h2=>?_
 rw [List.getElem_set]
 split
 ·rename_i h;subst h;simp
 ·rfl
theorem addT_new {t:T}:∀ {p:List T},idxT p t.i t.j=none→addT p t=p++ [⟨t.i,t.j,0+t.c⟩]
 | [],_=>rfl
 | h :: r,hn=>by
  unfold idxT at hn
  rw [List.findIdx?_cons]at hn
  cases hh:h.at t.i t.j with
  | true=>rw [hh]at hn;simp at hn
  | false=>
   rw [hh]at hn
   simp only [Bool.false_eq_true,if_false,Option.map_eq_none_iff]at hn
   unfold addT
   rw [if_neg (T.at_false.1 hh),addT_new (p:=r) hn]
   rfl
theorem addT_old {t:T}:∀ {p:List T} {k:Nat} (_:idxT p t.i t.j=some k) (hk:k<p.length),addT p t=p.set k ⟨t.i,t.j,p[k].c+t.c⟩
 | [],_,_,hk=>absurd hk (Nat.not_lt_zero _)
 | h :: r,k,hn,hk=>by
  unfold idxT at hn
  rw [List.findIdx?_cons]at hn
  cases hh:h.at t.i t.j with
  | true=>
   rw [hh]at hn
   simp only [if_true,Option.some.injEq]at hn
   subst hn
   have:=T.at_iff.1 hh
   unfold addT
   rw [if_pos this]
   simp [this]
  | false=>
   rw [hh]at hn
   simp only [Bool.false_eq_true,if_false,Option.map_eq_some_iff]at hn
   obtain ⟨q,hq,rfl⟩:=hn
   unfold addT
   rw [if_neg (T.at_false.1 hh),addT_old (p:=r) (k:=q) hq (by simpa using hk)]
   rfl
structure MD (D:DataW Unit) (acc:List T):Prop where
 isMap:IsMap D
 has:∀i j,i≤12→j≤12→Maps.has D (klT i j)=(idxT acc i j).isSome
 at_:∀i j k,i≤12→j≤12→idxT acc i j=some k→D.atKey (klT i j) (.lit (.int .i64 0))= .lit (.int .i64 (k:Int))
theorem MD.start:MD (.map []) []:=⟨⟨[],rfl⟩,fun _ _ _ _=>rfl,fun i j k _ _ h=>by simp [idxT]at h⟩
theorem MD.new {D:DataW Unit} {acc:List T} (h:MD D acc) {i j:Nat} (hi:i≤12) (hj:j≤12) (hn:idxT acc i j=none) (c:Rat):MD (D.put (klT i j) (.lit (.int .i64 (acc.length:Int)))) (acc++ [⟨i,j,c⟩]):=by
 refine⟨h.isMap.put _ _,fun i' j' hi' hj'=>?_,fun i' j' k hi' hj' hk=>?_⟩
 ·rw [idxT_app]
  by_cases e:i'=i∧j'=j
  ·rw [e.1,e.2,hn,has_put_same h.isMap (powerK.key (keyOf_T hi hj))];simp [T.at]
  ·rw [has_put_other (fun e'=>e (klT_inj hi' hj' hi hj e')),h.has i' j' hi' hj',show(T.mk i j c).at i' j'=false from T.at_false.2 (fun e'=>e ⟨e'.1.symm,e'.2.symm⟩)]
   simp
 ·rw [idxT_app]at hk
  by_cases e:i'=i∧j'=j
  ·rw [e.1,e.2]at hk ⊢
   rw [hn,show(T.mk i j c).at i j=true from T.at_iff.2 ⟨rfl,rfl⟩]at hk
   simp at hk
   rw [atKey_put_same h.isMap (powerK.key (keyOf_T hi hj)),hk]
  ·rw [show(T.mk i j c).at i' j'=false from T.at_false.2 (fun e'=>e ⟨e'.1.symm,e'.2.symm⟩)]at hk
   simp at hk
   rw [atKey_put_other (fun e'=>e (klT_inj hi' hj' hi hj e')),h.at_ i' j' k hi' hj' hk]
theorem MD.set {D:DataW Unit} {acc:List T} (h:MD D acc) {k:Nat} (hk:k<acc.length) (c:Rat):MD D (acc.set k ⟨acc[k].i,acc[k].j,c⟩):=
 ⟨h.isMap,fun i j hi hj=>by rw [idxT_set acc k hk];exact h.has i j hi hj,fun i j q hi hj hq=>h.at_ i j q hi hj (by rwa [idxT_set acc k hk]at hq)⟩
def MP (w:World) (b:Nat) (acc:List T):Prop:= ∃D:DataW Unit,w.ownsMap Tryz.prog 164 (plainElem Tryz.prog 3) b acc.length D∧MD D acc
theorem MP.set {w:World} {b:Nat} {acc:List T} (h:MP w b acc) {k:Nat} (hk:k<acc.length) (c:Rat):MP w b (acc.set k ⟨acc[k].i,acc[k].j,c⟩):=by
 obtain ⟨D,h1,h2⟩:=h
 exact⟨D,by rw [List.length_set];exact h1,h2.set hk c⟩
theorem MP.kp {w w':World} {b:Nat} {acc:List T} {row:Option Nat} (h:MP w b acc) (hk:Kp w w' row) (hne:some b≠row):MP w' b acc:=by
 obtain ⟨D,h1,h2⟩:=h
 exact⟨D,h1.kept hk.g hne,h2⟩
theorem MP.lt {w:World} {b:Nat} {acc:List T} (h:MP w b acc):b<w.heap.size:=by obtain ⟨D,h1,_⟩:=h;exact h1.lt
theorem MP.gr {w w':World} {b B:Nat} {acc:List T} (h:MP w b acc) (hg:Gr B w w') (hB:b<B):MP w' b acc:=by
 obtain ⟨D,⟨es,clock,hb,F,hs,hD⟩,h2⟩:=h
 exact⟨D,⟨es,clock,(hg.block b hB).trans hb,F,hs,hD⟩,h2⟩
theorem MP.start (w:World):MP (w.alloc (.map #[] 0)) w.heap.size []:=⟨_,World.ownsMap_made w _ _ _,MD.start⟩
section
variable (w:World) {ops:Array Oper} {rest:List Oper} {o:Oper} {a:Act} {Q:Exit→Act→World→Prop} {b:Nat} {acc:List T} {i j:Nat}
theorem wpList_look_some {k:Nat} (hMP:MP w b acc) (hi:i≤12) (hj:j≤12) (hidx:idxT acc i j=some k) (hg:o.guard=none) (m x:Operand) (hop:o.op=Op.lookup 161 m x true) (hm:a.eval m= .map (some b)) (hx:a.eval x= .agg #[.int .i64 (i:Int),.int .i64 (j:Int)])
  (h:wpList Tryz.prog ops Q rest (a.put o.dst (.tuple #[.int .i64 (k:Int),.bool true])) w):wpList Tryz.prog ops Q (o :: rest) a w:=by
 obtain ⟨D,h1,h2⟩:=hMP
 refine wpList_lookup_own_ok_int w hg m x _ hop 164 3 .i64 powerK Tryz.underlying161 Tryz.underlying3 (zeroInt w) b _ D hm h1 _ _ hx (keyOf_T hi hj) fun c hc _=>?_
 rw [h2.at_ i j k hi hj hidx]at hc
 rw [h2.has i j hi hj,hidx]
 injection hc with hc
 injection hc with _ hc
 rw [←hc]
 exact h
theorem wpList_look_none (hMP:MP w b acc) (hi:i≤12) (hj:j≤12) (hidx:idxT acc i j=none) (hg:o.guard=none) (m x:Operand) (hop:o.op=Op.lookup 161 m x true) (hm:a.eval m= .map (some b)) (hx:a.eval x= .agg #[.int .i64 (i:Int),.int .i64 (j:Int)])
  (h:∀c:Int,wpList Tryz.prog ops Q rest (a.put o.dst (.tuple #[.int .i64 c,.bool false])) w):wpList Tryz.prog ops Q (o :: rest) a w:=by
 obtain ⟨D,h1,h2⟩:=hMP
 refine wpList_lookup_own_ok_int w hg m x _ hop 164 3 .i64 powerK Tryz.underlying161 Tryz.underlying3 (zeroInt w) b _ D hm h1 _ _ hx (keyOf_T hi hj) fun c hc _=>?_
 rw [h2.has i j hi hj,hidx]
 exact h c
theorem wpList_upd (hMP:MP w b acc) (hi:i≤12) (hj:j≤12) (hidx:idxT acc i j=none) (hlen:acc.length<4611686018427387904) (hg:o.guard=none) (m x v:Operand) (hop:o.op=Op.mapUpdate 161 m x v) (hm:a.eval m= .map (some b)) (hx:a.eval x= .agg #[.int .i64 (i:Int),.int .i64 (j:Int)])
  (hv:a.eval v= .int .i64 (acc.length:Int)) (h:∀w',(∀c,MP w' b (acc++ [⟨i,j,c⟩]))→Kp w w' (some b)→wpList Tryz.prog ops Q rest (a.put o.dst undef) w'):wpList Tryz.prog ops Q (o :: rest) a w:=by
 obtain ⟨D,h1,h2⟩:=hMP
 refine wpList_plain hg fun K' hK'=>?_
 obtain ⟨w',hrun,r1,r2⟩:=h1.update powerK Tryz.underlying161 (by unfold maxLen;omega) (keyOf_T hi hj) (plainElem_int (e:=3) Tryz.underlying3 (a:=(acc.length:Int)) (WalkArith.wf_i64 (by omega)))
 have hd:=run_drawn _ _ _ _ _ hrun
 unfold Oper.wp
 simp [execOp,hop,hm,hx,hv,hrun,Result.andThen]
 exact hK' _ _ (h w' (fun c=>⟨_,by rw [List.length_append];exact r1,h2.new hi hj hidx c⟩) ⟨r2,hd⟩)
end
end Go.Proofs.YtfgmdhjmgdccdaaGreat
