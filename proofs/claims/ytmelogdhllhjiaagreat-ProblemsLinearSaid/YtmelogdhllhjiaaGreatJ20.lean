/-
  Part 20 of the proof: PolG Clip MeshD.
-/
import Derived.Test.YtmelogdhllhjiaaGreatJ19
import Derived.Test.YtmelogdhllhjiaaGreatJ18
set_option linter.unusedSimpArgs false
set_option linter.unusedVariables false
namespace Go.Proofs.YtmelogdhllhjiaaGreat
open Go.RowKit Gus Go.Maps
set_option maxRecDepth 20000 in
set_option maxHeartbeats 4000000 in
theorem index_Term_nil (fv:Value) (w:World):Calls Tryz.prog 85 #[.slice none 0 0,fv] w (Ret w (.int .i64 (-1))):=by
 go_enter Tryz.func85,Tryz.ntmps85
 go_wp2
 refine wp_loop_rounds 1 ?_
 rw [rounds_succ]
 go_wp2
 go_ret
 exact⟨rfl,Gr.refl _ _⟩
set_option maxRecDepth 20000 in
set_option maxHeartbeats 4000000 in
theorem del_Term_nil (fv:Value) (w:World):Calls Tryz.prog 53 #[.slice none 0 0,fv] w (Ret w (.slice none 0 0)):=by
 have hI:=Lib.hid (index_Term_nil fv)
 go_enter Tryz.func53,Tryz.ntmps53
 go_wp2_with fail
 (refine(hI.out _).mono ?_;rintro e w1 ⟨rfl,hg1⟩;(try (with_reducible replace hg1:=Gr.of_drew hg1));have hsz1:=hg1.size;(try simp at hsz1);skip;obtain ⟨hc1,hf1⟩:=hg1.cells;have HG1:=Lib.hid hg1;clear hg1)
 go_wp2
 go_ret
 exact⟨rfl,HG1.out⟩
set_option maxRecDepth 20000 in
set_option maxHeartbeats 4000000 in
theorem gathered_none (a:Option Addr) (cap:Nat) (w:World):Calls Tryz.prog 29 #[.slice a 0 cap] w (Ret w (.slice none 0 0)):=by
 have hmm:= @run_makeMap Tryz.prog
 have hD:=Lib.hid (del_Term_nil (.func (.func 54) #[] #[]))
 have hS:=Lib.hid (sort_Term_nil (.func (.func 57) #[] #[]))
 go_enter Tryz.func29,Tryz.ntmps29
 go_wp2
 refine wp_loop_rounds 1 ?_
 rw [rounds_succ]
 go_wp2_with fail
 (refine(hD.out _).mono ?_;rintro e w1 ⟨rfl,hg1⟩;(try (with_reducible replace hg1:=Gr.of_drew hg1));have hsz1:=hg1.size;(try simp at hsz1);have hz1_0:w.heap.size<w1.heap.size:=(by omega);obtain ⟨hc1,hf1⟩:=hg1.cells;have HG1:=Lib.hid hg1;clear hg1)
 go_wp2_with fail
 (refine(hS.out _).mono ?_;rintro e w2 ⟨rfl,hg2⟩;(try (with_reducible replace hg2:=Gr.of_drew hg2));have hsz2:=hg2.size;(try simp at hsz2);have hz2_0:w.heap.size<w2.heap.size:=(by omega);obtain ⟨hc2,hf2⟩:=hg2.cells;have HG2:=Lib.hid hg2;clear hg2)
 go_wp2
 go_ret
 exact⟨rfl,by(with_reducible (repeat' (first|exact Gr.refl _ _|refine Gr.drew ?_|refine Gr.setCell ?_ ?_ _|refine Gr.alloc ?_ ?_ _|refine Gr.trans ?_ (Gr.mono HG2.out ?_)|refine Gr.trans ?_ (Gr.mono HG1.out ?_)|omega|(simp;done)|(simp;omega))))⟩
def RetP (w:World) (l:List T) (e:Ending) (w':World):Prop:= ∃v,e= .returned v∧PL w' w.heap.size v l∧Gr w.heap.size w w'
theorem po_gathered (l:List T) (v:Value) (w:World) (hS:PL w 0 v l) (hok:∀t∈l,t.ok) (ht:tot l≤100000000000):Calls Tryz.prog 29 #[v] w (RetP w (gat l)):=by
 by_cases hne:l= []
 ·subst hne
  obtain ⟨a,cap,rfl⟩:=hS.at
  exact(gathered_none a cap w).mono fun _ _ ⟨h1,h2⟩=>⟨_,h1,SL.nil,h2⟩
 ·obtain ⟨g,cap,rfl,_⟩:=hS.block hne
  exact gathered_walk l g cap w hS hne hok ht
set_option maxRecDepth 20000 in
set_option maxHeartbeats 4000000 in
theorem po_Of (l:List T) (v:Value) (w:World) (hS:PL w 0 v l) (hok:∀t∈l,t.ok) (ht:tot l≤100000000000):
  Calls Tryz.prog 17 #[v] w (fun e w'=> ∃v',e= .returned (.tuple #[v',.int .i64 0])∧PL w' w.heap.size v' (gat l)∧Gr w.heap.size w w'):=by
 obtain ⟨a,cap,rfl⟩:=hS.at
 have hl:=hS.len
 have hl2:(l.length:Int)≤9223372036854775807:=by simp only [maxLen]at hl;omega
 have HS:=Lib.hid hS
 have HOK:=Lib.hid hok
 have HT:=Lib.hid ht
 clear hS hok ht hl
 go_enter Tryz.func17,Tryz.ntmps17
 go_wp2
 go_loopw [9] (fun s wr=> ∃n:Nat,s= .int .i64 n∧n≤l.length∧Gr w.heap.size w wr) (fun s _=>l.length - (intOf s).toNat)
 case atStart=>exact⟨0,rfl,Nat.zero_le _,Gr.refl _ _⟩
 case round=>
  obtain ⟨n,rfl,hn,hgr⟩:=hrel
  by_cases hlt:n<l.length
  ·obtain ⟨t,ht⟩:∃t,l[n]=t:=⟨_,rfl⟩
   obtain ⟨g,cap',e1,_,_,_,hsh,hR⟩:=(HS.out.gr hgr).block (by intro e;rw [e]at hlt;simp at hlt)
   injection e1 with e1 _ e2
   subst e1 e2
   obtain ⟨v0,v1,v2,v3,v4,v5,v6⟩:=hR.term hlt ht
   have hC:=Lib.hid (po_may t (HOK.out t (ht ▸ List.getElem_mem hlt)))
   have hglt:=hsh.lt
   have HG:=Lib.hid hgr
   clear hgr hR hsh ht
   go_wp2_with (((go_at_call 34;refine(hC.out _).mono ?_;rintro e w1 ⟨rfl,hg1⟩;(try (with_reducible replace hg1:=Gr.of_drew hg1));have hsz1:=hg1.size;(try simp at hsz1);have hy1_0:g<w1.heap.size:=(by omega);obtain ⟨hc1,hf1⟩:=hg1.cells;have HG1:=Lib.hid hg1;clear hg1)))
   go_roundw
   case rel=>exact⟨n+1,by go_num,by omega,HG.out.trans (by have:=HG.out.size;(with_reducible (repeat' (first|exact Gr.refl _ _|refine Gr.drew ?_|refine Gr.setCell ?_ ?_ _|refine Gr.alloc ?_ ?_ _|refine Gr.trans ?_ (Gr.mono HG1.out ?_)|omega|(simp;done)|(simp;omega)))))⟩
   case measure=>simp [intOf];omega
  ·obtain rfl:n=l.length:=by omega
   have hS2:=HS.out.gr hgr
   have HG:=Lib.hid hgr
   have hC:=Lib.hid (po_gathered l _ wr hS2 HOK.out HT.out)
   clear hgr hS2
   go_wp2_with fail
   refine hC.out.mono ?_
   rintro e w2 ⟨v2,rfl,hS3,hg3⟩
   have HS3:=Lib.hid hS3
   have HG3:=Lib.hid hg3
   clear hS3 hg3
   go_wp2
   have hsz:=HG.out.size
   exact bodyPost_ret (v:= .tuple #[v2,.int .i64 0]) (by simp [results,Tryz.results17,go_sem]) rfl ⟨_,rfl,HS3.out.mono hsz,HG.out.trans (HG3.out.mono hsz)⟩
set_option maxRecDepth 20000 in
set_option maxHeartbeats 4000000 in
theorem po_brought (l:List T) (v:Value) (w:World) (hS:PL w 0 v l) (hok:∀t∈l,t.ok) (ht:tot l≤100000000000):Calls Tryz.prog 30 #[v] w (RetP w (gat l)):=by
 have hC:=Lib.hid (po_Of l v w hS hok ht)
 clear hS hok ht
 go_enter Tryz.func30,Tryz.ntmps30
 go_wp2_with fail
 refine hC.out.mono ?_
 rintro e w2 ⟨v2,rfl,hS3,hg3⟩
 have HS3:=Lib.hid hS3
 have HG3:=Lib.hid hg3
 clear hS3 hg3
 go_wp2
 go_ret
 exact⟨_,rfl,HS3.out,HG3.out⟩
theorem SL.new' {α:Type} {enc:α→List Value} {k:Nat} {t:TypeId} {w:World} {B:Nat} {l:List α} {g n:Nat} (hk:∀x,(enc x).length=k) (cs:List Value) (hcs:cs=l.flatMap enc) (hg:g=w.heap.size) (hB:B≤g) (hl:l.length≤maxLen) (hn:n=l.length):SL enc k t (w.alloc (.cells cs.toArray t)) B (.slice (some ⟨g,0,none⟩) n n) l:=by
 subst hg hn
 exact SL.new hk cs hcs hB hl
def constT (c:Rat):List T:=if c=0 then []else [⟨0,0,c⟩]
theorem gat_const (c:Rat):gat [⟨0,0,c⟩]=constT c:=by
 unfold gat gather constT
 simp only [List.foldl_cons,List.foldl_nil,addT,Rat.zero_add]
 by_cases h:c=0
 ·subst h;rfl
 ·rw [if_neg h];simp [kept,sortT,insT,h]
set_option maxRecDepth 20000 in
set_option maxHeartbeats 4000000 in
theorem po_Const (c:Rat) (w:World) (hc:hw c≤10000000000):Calls Tryz.prog 11 #[fracV c] w (RetP w (constT c)):=by
 have hC:=Lib.hid (fun (v:Value) (w:World) (hS:PL w 0 v [⟨0,0,c⟩])=>gat_const c ▸ po_gathered [⟨0,0,c⟩] v w hS (by intro t ht;simp at ht;subst ht;exact Nat.zero_le _) (by simp only [tot];omega))
 generalize constT c=r at *
 clear hc
 go_enter Tryz.func11,Tryz.ntmps11
 go_wp2_with fail
 refine(hC.out _ _ (SL.new' tC_len _ rfl (by simp) (Nat.zero_le _) (by simp [maxLen]) rfl)).mono ?_
 rintro e w2 ⟨v2,rfl,hS3,hg3⟩
 have HS3:=Lib.hid hS3
 have HG3:=Lib.hid hg3
 have hsz:=hg3.size
 (try simp at hsz)
 clear hS3 hg3
 go_wp2
 go_ret
 exact⟨_,rfl,HS3.out.mono (by simp;omega),by(with_reducible (repeat' (first|exact Gr.refl _ _|refine Gr.drew ?_|refine Gr.setCell ?_ ?_ _|refine Gr.alloc ?_ ?_ _|refine Gr.trans ?_ (Gr.mono HG3.out ?_)|omega|(simp;done)|(simp;omega))))⟩
section
variable {P:Program} (w:World) {ops:Array Oper} {rest:List Oper} {o:Oper} {a:Act} {Q:Exit→Act→World→Prop}
theorem wpList_app0 (hg:o.guard=none) (s x:Operand) (ts:TypeId) (hop:o.op= .call {callee:= .builtin .append,args:= #[s,x],argTypes:= #[ts,ts]}) (e:TypeId) (i:TypeInfo) (ht:P.underlying ts=some (.slice e)) (hi:P.info? e=some i)
  (b:Option Addr) (n c:Nat) (hs:a.eval s= .slice b n c) (hc:n≤c) (hx:a.eval x= .slice none 0 0) (h:wpList P ops Q rest (a.put o.dst (.slice b n c)) w):wpList P ops Q (o :: rest) a w:=by
 refine wpList_plain hg fun K hK=>?_
 have hrun:(Builtin.append_ #[ts,ts] o.type #[.slice b n c,.slice none 0 0]).run P w= .ok (.slice b n c) w:=by
  cases b<;>simp [Builtin.append_,run_underlying ht,sizeOf,typeInfo,hi,Builtin.lenOf,Builtin.firstCells,loadCells,loadCellsFrom,storeCells,hc]
 unfold Oper.wp execOp
 simp only [hop,resolve,invoke,builtin,Sem.run_bind,Sem.run_pure,Result.andThen_ok,List.map_toArray,List.map_cons,List.map_nil,hs,hx,hrun]
 exact hK _ _ h
end
set_option maxRecDepth 20000 in
set_option maxHeartbeats 4000000 in
theorem po_Add (l m:List T) (v u:Value) (w:World) (hS:PL w 0 v l) (hU:PL w 0 u m) (hok:∀t∈l,t.ok) (hok2:∀t∈m,t.ok) (ht:tot l+tot m≤100000000000):Calls Tryz.prog 9 #[v,u] w (RetP w (gat (gat l++gat m))):=by
 have hB1:=Lib.hid (po_brought l v w hS hok (by omega))
 have HU:=Lib.hid hU
 have HOK:=Lib.hid (And.intro hok (And.intro hok2 ht))
 clear hS hU hok hok2 ht
 go_enter Tryz.func9,Tryz.ntmps9
 go_wp2_with fail
 refine hB1.out.mono ?_
 rintro e w2 ⟨v2,rfl,hS2,hg2⟩
 have HB2:=Lib.hid (po_brought m u w2 (HU.out.gr hg2) HOK.out.2.1 (by have:=HOK.out.2.2;omega))
 have HS2:=Lib.hid hS2
 have HG2:=Lib.hid hg2
 have hsz2:=hg2.size
 clear hS2 hg2
 go_wp2_with fail
 refine HB2.out.mono ?_
 rintro e w3 ⟨v3,rfl,hS3,hg3⟩
 have HS3:=Lib.hid hS3
 have HG3:=Lib.hid hg3
 have hsz3:=hg3.size
 have HT3:=Lib.hid (HS2.out.gr hg3)
 clear hg3
 obtain ⟨i0,hi,hz0,hz1,hz2⟩:=info_parts info_T
 have HI:=Lib.hid (And.intro hi (And.intro hz0 (And.intro hz1 hz2)))
 clear hi hz0 hz1 hz2
 have hlen:(gat l).length+(gat m).length≤100000000000:=by
  have h1:=tot_len (gat l);have h2:=tot_len (gat m);have h3:=tot_gat l;have h4:=tot_gat m;have h5:=HOK.out.2.2
  omega
 have hokA:∀t∈gat l++gat m,t.ok:=fun t ht=>by
  rcases List.mem_append.1 ht with h|h
  ·exact(nf_gat HOK.out.1).ok t h
  ·exact(nf_gat HOK.out.2.1).ok t h
 have htA:tot (gat l++gat m)≤100000000000:=by
  rw [tot_append]
  have h3:=tot_gat l;have h4:=tot_gat m;have h5:=HOK.out.2.2
  omega
 have HA:=Lib.hid (And.intro hokA htA)
 clear hokA htA
 generalize gat l=gl at *
 generalize gat m=gm at *
 dsimp only
 rcases hS3 with⟨rfl,hnil⟩|⟨g5,c5,rfl,h51,h52,h53,h54,h55⟩
 ·obtain ⟨b,n,rfl⟩:=HT3.out.at
  have hcap:gl.length≤n:=by
   rcases HT3.out with⟨h,_⟩|⟨g,cap,h,_,h2,_⟩
   ·injection h with _ h2 _;omega
   ·injection h with _ _ h3;omega
  have HN:=Lib.hid hnil
  clear hnil
  have hP:=Lib.hid (po_gathered gl (.slice b gl.length n) w3 (HT3.out.mono (Nat.zero_le _)) (fun t ht=>HA.out.1 t (List.mem_append_left _ ht)) (by have:=HA.out.2;rw [tot_append]at this;omega))
  go_wp2_with (first|(at_builtin;refine wpList_app0 _ rfl _ _ 41 rfl 58 i0 Tryz.underlying41 HI.out.1 b gl.length n rfl hcap rfl ?_)|(go_at_call 29;refine hP.out.mono ?_;rintro e w4 ⟨v4,rfl,hS4,hg4⟩;have HS4:=Lib.hid (And.intro hS4 hg4);clear hS4 hg4))
  go_ret
  refine⟨_,rfl,?_,?_⟩
  ·rw [HN.out,List.append_nil]
   exact HS4.out.1.mono (by omega)
  ·exact(HG2.out.trans (HG3.out.mono hsz2)).trans (HS4.out.2.mono (by omega))
 ·have hlt5:=h54.lt
  have HR5:=Lib.hid h55
  clear h54 h55
  go_wp2_with (at_builtin;refine wpList_appS _ rfl _ _ 41 rfl w.heap.size i0 _ 72 Tryz.underlying41 HI.out.1 HI.out.2.1 HI.out.2.2.1 HI.out.2.2.2 rfl (by decide) tC_len tC_one _ gl rfl HT3.out g5 c5 gm gm.length rfl rfl HR5.out (by unfold maxLen;omega) (by omega) (by omega) ?_;intro v4 w4 hS4 hkp4 _)
  have hgr4:Gr w.heap.size w3 w4:=hkp4.gr (fun b e=>HT3.out.own_ge e) (by omega)
  have hsz4:=hgr4.size
  have hP:=Lib.hid (po_gathered _ v4 w4 (hS4.mono (Nat.zero_le _)) HA.out.1 HA.out.2)
  have HG4:=Lib.hid hgr4
  clear hS4 hkp4 hgr4
  go_wp2_with (go_at_call 29;refine hP.out.mono ?_;rintro e w5 ⟨v5,rfl,hS5,hg5⟩;have HS5:=Lib.hid (And.intro hS5 hg5);clear hS5 hg5)
  go_ret
  refine⟨_,rfl,?_,?_⟩
  ·exact HS5.out.1.mono (by omega)
  ·exact((HG2.out.trans (HG3.out.mono hsz2)).trans HG4.out).trans (HS5.out.2.mono (by omega))
end Go.Proofs.YtmelogdhllhjiaaGreat
namespace Go.Proofs.YtmelogdhllhjiaaGreat
open Go.RowKit Gus
theorem triC_one (x:Tri):∀v∈triC x,v.oneCell'=true:=by
 intro v hv
 simp only [triC,List.mem_cons,List.not_mem_nil,or_false]at hv
 rcases hv with rfl|rfl|rfl<;>rfl
theorem pC_one (x:Pt):∀v∈pC x,v.oneCell'=true:=by
 intro v hv
 simp only [pC,p2C,List.mem_cons,List.not_mem_nil,or_false]at hv
 rcases hv with rfl|rfl|rfl|rfl|rfl|rfl|rfl|rfl|rfl|rfl<;>rfl
theorem info_bPt:(Tryz.prog.info? 94).map (fun i=>(i.zero,i.size,i.bytes))=some (some (.agg #[.int .u64 0,.string ⟨#[]⟩,.bool false,.int .u64 0,.string ⟨#[]⟩,.int .u64 0,.string ⟨#[]⟩,.bool false,.int .u64 0,.string ⟨#[]⟩]),10,112):=by kernel_rfl
set_option maxRecDepth 20000 in
set_option maxHeartbeats 4000000 in
theorem clip_Pt (l:List Pt) (v:Value) (B:Nat) (w:World) (hS:SR pC 10 94 w B v l):Calls Tryz.prog 60 #[v] w (fun e w'=> ∃v',e= .returned v'∧SR pC 10 94 w' B v' l∧Gr w.heap.size w w'):=by
 obtain ⟨a,c,rfl⟩:=hS.at
 obtain ⟨_,h1,h2⟩:=hS.cap
 have HS:=Lib.hid hS.clip
 have hl1:(l.length:Int)≤(c:Int):=by omega
 have hl2:(c:Int)≤9223372036854775807:=by simp only [maxLen]at h2;omega
 clear hS h2
 go_enter Tryz.func60,Tryz.ntmps60
 go_wp2
 go_ret
 exact⟨_,rfl,HS.out,Gr.refl _ _⟩
set_option maxRecDepth 20000 in
set_option maxHeartbeats 4000000 in
theorem clone_Pt (l:List Pt) (v:Value) (B:Nat) (w:World) (hS:SR pC 10 94 w B v l) (hl:l.length≤1000000):Calls Tryz.prog 61 #[v] w (fun e w'=> ∃v',e= .returned v'∧SL pC 10 94 w' w.heap.size v' l∧Gr w.heap.size w w'):=by
 have hq:= @Lib.run_eql_slice_nil Tryz.prog
 rcases hS with⟨rfl,rfl⟩|⟨g,cap,rfl,_,h3,h4,h5,h6⟩
 ·go_enter Tryz.func61,Tryz.ntmps61
  go_wp2
  go_ret
  exact⟨_,rfl,SL.nil,Gr.refl _ _⟩
 ·obtain ⟨i0,hi,hz0,hz1,hz2⟩:=info_parts info_bPt
  have HI:=Lib.hid (And.intro hi (And.intro hz0 (And.intro hz1 hz2)))
  have HR:=Lib.hid (And.intro h6 h5.lt)
  clear hi hz0 hz1 hz2 h5 h6
  go_enter Tryz.func61,Tryz.ntmps61
  go_wp2_with (at_builtin;refine wpList_appS _ rfl _ _ 59 rfl w.heap.size i0 _ 112 Tryz.underlying59 HI.out.1 HI.out.2.1 HI.out.2.2.1 HI.out.2.2.2 rfl (by decide) pC_len pC_one _ [] rfl (SL.new' pC_len [] rfl rfl (Nat.le_refl _) (by simp [maxLen]) rfl) g cap l l.length rfl rfl (HR.out.1.gr (C:=w.heap.size) (by(with_reducible (repeat' (first|exact Gr.refl _ _|refine Gr.drew ?_|refine Gr.setCell ?_ ?_ _|refine Gr.alloc ?_ ?_ _|omega|(simp;done)|(simp;omega))))) HR.out.2) (by unfold maxLen;simp;omega) (by simp;omega) (by simp) ?_;intro v' w2 hS2 hkp2 _;have HS2:=Lib.hid (And.intro hS2 hkp2);clear hS2 hkp2)
  go_ret
  exact⟨_,rfl,HS2.out.1,(show Gr w.heap.size w _ from by(with_reducible (repeat' (first|exact Gr.refl _ _|refine Gr.drew ?_|refine Gr.setCell ?_ ?_ _|refine Gr.alloc ?_ ?_ _|omega|(simp;done)|(simp;omega))))).trans (HS2.out.2.gr (fun b e=>by have:=Option.some.inj e;simp at this;omega) (by simp))⟩
theorem info_bTri:(Tryz.prog.info? 96).map (fun i=>(i.zero,i.size,i.bytes))=some (some (.agg #[.int .i64 0,.int .i64 0,.int .i64 0]),3,24):=by kernel_rfl
set_option maxRecDepth 20000 in
set_option maxHeartbeats 4000000 in
theorem clip_Tri (l:List Tri) (v:Value) (B:Nat) (w:World) (hS:SR triC 3 96 w B v l):Calls Tryz.prog 62 #[v] w (fun e w'=> ∃v',e= .returned v'∧SR triC 3 96 w' B v' l∧Gr w.heap.size w w'):=by
 obtain ⟨a,c,rfl⟩:=hS.at
 obtain ⟨_,h1,h2⟩:=hS.cap
 have HS:=Lib.hid hS.clip
 have hl1:(l.length:Int)≤(c:Int):=by omega
 have hl2:(c:Int)≤9223372036854775807:=by simp only [maxLen]at h2;omega
 clear hS h2
 go_enter Tryz.func62,Tryz.ntmps62
 go_wp2
 go_ret
 exact⟨_,rfl,HS.out,Gr.refl _ _⟩
set_option maxRecDepth 20000 in
set_option maxHeartbeats 4000000 in
theorem clone_Tri (l:List Tri) (v:Value) (B:Nat) (w:World) (hS:SR triC 3 96 w B v l) (hl:l.length≤1000000):Calls Tryz.prog 63 #[v] w (fun e w'=> ∃v',e= .returned v'∧SL triC 3 96 w' w.heap.size v' l∧Gr w.heap.size w w'):=by
 have hq:= @Lib.run_eql_slice_nil Tryz.prog
 rcases hS with⟨rfl,rfl⟩|⟨g,cap,rfl,_,h3,h4,h5,h6⟩
 ·go_enter Tryz.func63,Tryz.ntmps63
  go_wp2
  go_ret
  exact⟨_,rfl,SL.nil,Gr.refl _ _⟩
 ·obtain ⟨i0,hi,hz0,hz1,hz2⟩:=info_parts info_bTri
  have HI:=Lib.hid (And.intro hi (And.intro hz0 (And.intro hz1 hz2)))
  have HR:=Lib.hid (And.intro h6 h5.lt)
  clear hi hz0 hz1 hz2 h5 h6
  go_enter Tryz.func63,Tryz.ntmps63
  go_wp2_with (at_builtin;refine wpList_appS _ rfl _ _ 60 rfl w.heap.size i0 _ 24 Tryz.underlying60 HI.out.1 HI.out.2.1 HI.out.2.2.1 HI.out.2.2.2 rfl (by decide) triC_len triC_one _ [] rfl (SL.new' triC_len [] rfl rfl (Nat.le_refl _) (by simp [maxLen]) rfl) g cap l l.length rfl rfl (HR.out.1.gr (C:=w.heap.size) (by(with_reducible (repeat' (first|exact Gr.refl _ _|refine Gr.drew ?_|refine Gr.setCell ?_ ?_ _|refine Gr.alloc ?_ ?_ _|omega|(simp;done)|(simp;omega))))) HR.out.2) (by unfold maxLen;simp;omega) (by simp;omega) (by simp) ?_;intro v' w2 hS2 hkp2 _;have HS2:=Lib.hid (And.intro hS2 hkp2);clear hS2 hkp2)
  go_ret
  exact⟨_,rfl,HS2.out.1,(show Gr w.heap.size w _ from by(with_reducible (repeat' (first|exact Gr.refl _ _|refine Gr.drew ?_|refine Gr.setCell ?_ ?_ _|refine Gr.alloc ?_ ?_ _|omega|(simp;done)|(simp;omega))))).trans (HS2.out.2.gr (fun b e=>by have:=Option.some.inj e;simp at this;omega) (by simp))⟩
theorem info_bSide:(Tryz.prog.info? 87).map (fun i=>(i.zero,i.size,i.bytes))=some (some (.agg #[.int .i64 0,.int .i64 0,.int .i64 0]),3,24):=by kernel_rfl
set_option maxRecDepth 20000 in
set_option maxHeartbeats 4000000 in
theorem clip_Side (l:List Tri) (v:Value) (B:Nat) (w:World) (hS:SR triC 3 87 w B v l):Calls Tryz.prog 64 #[v] w (fun e w'=> ∃v',e= .returned v'∧SR triC 3 87 w' B v' l∧Gr w.heap.size w w'):=by
 obtain ⟨a,c,rfl⟩:=hS.at
 obtain ⟨_,h1,h2⟩:=hS.cap
 have HS:=Lib.hid hS.clip
 have hl1:(l.length:Int)≤(c:Int):=by omega
 have hl2:(c:Int)≤9223372036854775807:=by simp only [maxLen]at h2;omega
 clear hS h2
 go_enter Tryz.func64,Tryz.ntmps64
 go_wp2
 go_ret
 exact⟨_,rfl,HS.out,Gr.refl _ _⟩
set_option maxRecDepth 20000 in
set_option maxHeartbeats 4000000 in
theorem clone_Side (l:List Tri) (v:Value) (B:Nat) (w:World) (hS:SR triC 3 87 w B v l) (hl:l.length≤1000000):Calls Tryz.prog 65 #[v] w (fun e w'=> ∃v',e= .returned v'∧SL triC 3 87 w' w.heap.size v' l∧Gr w.heap.size w w'):=by
 have hq:= @Lib.run_eql_slice_nil Tryz.prog
 rcases hS with⟨rfl,rfl⟩|⟨g,cap,rfl,_,h3,h4,h5,h6⟩
 ·go_enter Tryz.func65,Tryz.ntmps65
  go_wp2
  go_ret
  exact⟨_,rfl,SL.nil,Gr.refl _ _⟩
 ·obtain ⟨i0,hi,hz0,hz1,hz2⟩:=info_parts info_bSide
  have HI:=Lib.hid (And.intro hi (And.intro hz0 (And.intro hz1 hz2)))
  have HR:=Lib.hid (And.intro h6 h5.lt)
  clear hi hz0 hz1 hz2 h5 h6
  go_enter Tryz.func65,Tryz.ntmps65
  go_wp2_with (at_builtin;refine wpList_appS _ rfl _ _ 61 rfl w.heap.size i0 _ 24 Tryz.underlying61 HI.out.1 HI.out.2.1 HI.out.2.2.1 HI.out.2.2.2 rfl (by decide) triC_len triC_one _ [] rfl (SL.new' triC_len [] rfl rfl (Nat.le_refl _) (by simp [maxLen]) rfl) g cap l l.length rfl rfl (HR.out.1.gr (C:=w.heap.size) (by(with_reducible (repeat' (first|exact Gr.refl _ _|refine Gr.drew ?_|refine Gr.setCell ?_ ?_ _|refine Gr.alloc ?_ ?_ _|omega|(simp;done)|(simp;omega))))) HR.out.2) (by unfold maxLen;simp;omega) (by simp;omega) (by simp) ?_;intro v' w2 hS2 hkp2 _;have HS2:=Lib.hid (And.intro hS2 hkp2);clear hS2 hkp2)
  go_ret
  exact⟨_,rfl,HS2.out.1,(show Gr w.heap.size w _ from by(with_reducible (repeat' (first|exact Gr.refl _ _|refine Gr.drew ?_|refine Gr.setCell ?_ ?_ _|refine Gr.alloc ?_ ?_ _|omega|(simp;done)|(simp;omega))))).trans (HS2.out.2.gr (fun b e=>by have:=Option.some.inj e;simp at this;omega) (by simp))⟩
end Go.Proofs.YtmelogdhllhjiaaGreat
namespace Go.Proofs.YtmelogdhllhjiaaGreat
open Go.RowKit Gus
theorem SR.far {α:Type} {enc:α→List Value} {k:Nat} {t:TypeId} {w:World} {B:Nat} {v:Value} {l:List α} (h:SR enc k t w B v l) {p:Addr} (hp:p.block<B) (x:Value):SR enc k t (w.setCell p x) B v l:=by
 rcases h with h|⟨g,cap,h1,h2,h3,h4,⟨N,h5⟩,h6⟩
 ·exact .inl h
 ·refine .inr ⟨g,cap,h1,h2,h3,h4,⟨N,h5.set p x⟩,fun j hj i u hu=>?_⟩
  have hb:(w.setCell p x).heap[g]? =w.heap[g]? :=Below.heap_setCell _ _ _ _ (by omega)
  exact(World.cell?_of_block (a:=⟨g,j*k+i,none⟩) hb).trans (h6 j hj i u hu)
theorem info_Mesh:(Tryz.prog.info? 63).map (·.size)=some 3:=by kernel_rfl
theorem tells_good (n:Nat) (l:List Tri) (g:Nat) (w:World) (hV:VB w g [.int .i64 (n:Int)]) (hl:∀t∈l,goodT n t):TellsIn triV 108 #[.pointer (some ⟨g,0,none⟩)] (fun _=>false) l w:=
 ⟨enters_of Tryz.func108 (by kernel_rfl) rfl,fun W hW x hx=>by
  have e: #[triV x]++ #[Value.pointer (some ⟨g,0,none⟩)]= #[triV x,.pointer (some ⟨g,0,none⟩)]:=by simp
  rw [e]
  have hv:=hV.gr hW hV.lt
  exact ms_good x n g (hl x hx) W hv.lt (hv.c 0 _ rfl)⟩
set_option maxRecDepth 20000 in
set_option maxHeartbeats 4000000 in
theorem ms_numbered (l:List Tri) (n:Nat) (v:Value) (w:World) (hS:SR triC 3 96 w 0 v l) (hl:∀t∈l,goodT n t):Calls Tryz.prog 70 #[v,.int .i64 (n:Int)] w (Ret w (.bool true)):=by
 have hC:=Lib.hid (fun W g (hV:VB W g [.int .i64 (n:Int)]) (hg:Gr w.heap.size w W)=>contains_Tri l v 0 96 W (hS.gr hg) (tells_good n l g W hV hl))
 have e:(l.any fun _=>false)=false:=by simp
 rw [e]at hC
 clear hS hl e
 go_enter Tryz.func70,Tryz.ntmps70
 go_wp2_with fail
 (refine(hC.out _ _ (VB.new w [.int .i64 (n:Int)] _) (by(with_reducible (repeat' (first|exact Gr.refl _ _|refine Gr.drew ?_|refine Gr.setCell ?_ ?_ _|refine Gr.alloc ?_ ?_ _|omega|(simp;done)|(simp;omega)))))).mono ?_;rintro e w1 ⟨rfl,hg1⟩;(try (with_reducible replace hg1:=Gr.of_drew hg1));have hsz1:=hg1.size;(try simp at hsz1);have hz1_0:w.heap.size<w1.heap.size:=(by omega);obtain ⟨hc1,hf1⟩:=hg1.cells;have HG1:=Lib.hid hg1;clear hg1)
 go_wp2
 go_ret
 exact⟨rfl,by(with_reducible (repeat' (first|exact Gr.refl _ _|refine Gr.drew ?_|refine Gr.setCell ?_ ?_ _|refine Gr.alloc ?_ ?_ _|refine Gr.trans ?_ (Gr.mono HG1.out ?_)|omega|(simp;done)|(simp;omega))))⟩
set_option maxRecDepth 20000 in
set_option maxHeartbeats 4000000 in
theorem ms_Copy (m:Msh) (vp vt vs:Value) (w:World) (hM:MS w 0 vp vt vs m) (h1:m.pts.length≤1000000) (h2:m.tris.length≤1000000) (h3:m.sides.length≤1000000):
  Calls Tryz.prog 35 #[.agg #[vp,vt,vs]] w (fun e w'=> ∃a b c,e= .returned (.agg #[a,b,c])∧MS w' w.heap.size a b c m∧Gr w.heap.size w w'):=by
 have HM:=Lib.hid hM
 obtain ⟨hP,hT,hS⟩:=hM
 obtain ⟨ap,cp,rfl⟩:=hP.at
 obtain ⟨at_,ct,rfl⟩:=hT.at
 obtain ⟨as_,cs,rfl⟩:=hS.at
 clear hP hT hS
 go_enter Tryz.func35,Tryz.ntmps35
 go_wp2_with fail
 refine wp_region_held_drew (S:=(fun w'=>w'.cell? ⟨w.heap.size,0,none⟩=some (.slice ap m.pts.length cp)∧w'.cell? ⟨w.heap.size,1,none⟩=some (.slice at_ m.tris.length ct)∧w'.cell? ⟨w.heap.size,2,none⟩=some (.slice as_ m.sides.length cs))) (by kernel_rfl) ?_ (fun hHeld=>?_)
 ·simp [go_sem, *]
 refine tk 0 (some 3) (.pointer (some ⟨w.heap.size,0,none⟩)) ?_
 try simp only [pS]
 refine tk 1 (some 4) (.slice ap m.pts.length cp) ?_
 try simp only [pS]
 refine tk 4 (some 7) (.pointer (some ⟨w.heap.size,1,none⟩)) ?_
 try simp only [pS]
 refine tk 5 (some 8) (.slice at_ m.tris.length ct) ?_
 try simp only [pS]
 refine tk 8 (some 11) (.pointer (some ⟨w.heap.size,2,none⟩)) ?_
 try simp only [pS]
 refine tk 9 (some 12) (.slice as_ m.sides.length cs) ?_
 try simp only [pS]
 refine rd 2 (fun K hK=>?_)
 go_simp
 (refine(clone_Pt m.pts _ 0 _ (by exact HM.out.1.gr (by(with_reducible (repeat' (first|exact Gr.refl _ _|refine Gr.drew ?_|refine Gr.setCell ?_ ?_ _|refine Gr.alloc ?_ ?_ _|omega|(simp;done)|(simp;omega)))))) h1).mono ?_;rintro e w2 ⟨v2,rfl,hS2,hg2⟩;(try (with_reducible replace hg2:=Gr.of_drew hg2));have hsz2:=hg2.size;(try simp at hsz2);have hz2_0:w.heap.size<w2.heap.size:=(by omega);have hz2_1:w.heap.size+1<w2.heap.size:=(by omega);obtain ⟨hc2,hf2⟩:=hg2.cells;have HG2:=Lib.hid hg2;clear hg2;have HS2:=Lib.hid hS2;clear hS2)
 (try dsimp only)
 refine hK.out _ _ ?_ (fun hH2=>?_)
 ·(first|exact trivial|((try dsimp only);simp [go_sem, *]))
 clear hK K hHeld
 try simp only [pS]
 refine rd 3 (fun K hK=>?_)
 go_simp
 (refine(clip_Pt m.pts v2 (w.heap.size+1+1) _ (by exact(HS2.out.sr.mono (by first|omega|(simp;done)|(simp;omega))).gr (by(with_reducible (repeat' (first|exact Gr.refl _ _|refine Gr.drew ?_|refine Gr.setCell ?_ ?_ _|refine Gr.alloc ?_ ?_ _|omega|(simp;done)|(simp;omega))))))).mono ?_;rintro e w3 ⟨v3,rfl,hS3,hg3⟩;(try (with_reducible replace hg3:=Gr.of_drew hg3));have hsz3:=hg3.size;(try simp at hsz3);have hz3_0:w.heap.size<w3.heap.size:=(by omega);have hz3_1:w.heap.size+1<w3.heap.size:=(by omega);obtain ⟨hc3,hf3⟩:=hg3.cells;have HG3:=Lib.hid hg3;clear hg3;have HS3:=Lib.hid hS3;clear hS3)
 (try dsimp only)
 refine hK.out _ _ ?_ (fun hH3=>?_)
 ·(first|exact trivial|((try dsimp only);simp [go_sem, *]))
 clear hK K hH2
 try simp only [pS]
 refine rd 6 (fun K hK=>?_)
 go_simp
 (refine(clone_Tri m.tris _ 0 _ (by exact HM.out.2.1.gr (by(with_reducible (repeat' (first|exact Gr.refl _ _|refine Gr.drew ?_|refine Gr.setCell ?_ ?_ _|refine Gr.alloc ?_ ?_ _|refine Gr.trans ?_ (Gr.mono HG3.out ?_)|refine Gr.trans ?_ (Gr.mono HG2.out ?_)|omega|(simp;done)|(simp;omega)))))) h2).mono ?_;rintro e w4 ⟨v4,rfl,hS4,hg4⟩;(try (with_reducible replace hg4:=Gr.of_drew hg4));have hsz4:=hg4.size;(try simp at hsz4);have hz4_0:w.heap.size<w4.heap.size:=(by omega);have hz4_1:w.heap.size+1<w4.heap.size:=(by omega);obtain ⟨hc4,hf4⟩:=hg4.cells;have HG4:=Lib.hid hg4;clear hg4;have HS4:=Lib.hid hS4;clear hS4)
 (try dsimp only)
 refine hK.out _ _ ?_ (fun hH4=>?_)
 ·(first|exact trivial|((try dsimp only);simp [go_sem, *]))
 clear hK K hH3
 try simp only [pS]
 refine rd 7 (fun K hK=>?_)
 go_simp
 (refine(clip_Tri m.tris v4 (w.heap.size+1+1) _ (by exact(HS4.out.sr.mono (by first|omega|(simp;done)|(simp;omega))).gr (by(with_reducible (repeat' (first|exact Gr.refl _ _|refine Gr.drew ?_|refine Gr.setCell ?_ ?_ _|refine Gr.alloc ?_ ?_ _|omega|(simp;done)|(simp;omega))))))).mono ?_;rintro e w5 ⟨v5,rfl,hS5,hg5⟩;(try (with_reducible replace hg5:=Gr.of_drew hg5));have hsz5:=hg5.size;(try simp at hsz5);have hz5_0:w.heap.size<w5.heap.size:=(by omega);have hz5_1:w.heap.size+1<w5.heap.size:=(by omega);obtain ⟨hc5,hf5⟩:=hg5.cells;have HG5:=Lib.hid hg5;clear hg5;have HS5:=Lib.hid hS5;clear hS5)
 (try dsimp only)
 refine hK.out _ _ ?_ (fun hH5=>?_)
 ·(first|exact trivial|((try dsimp only);simp [go_sem, *]))
 clear hK K hH4
 try simp only [pS]
 refine rd 10 (fun K hK=>?_)
 go_simp
 (refine(clone_Side m.sides _ 0 _ (by exact HM.out.2.2.gr (by(with_reducible (repeat' (first|exact Gr.refl _ _|refine Gr.drew ?_|refine Gr.setCell ?_ ?_ _|refine Gr.alloc ?_ ?_ _|refine Gr.trans ?_ (Gr.mono HG5.out ?_)|refine Gr.trans ?_ (Gr.mono HG4.out ?_)|refine Gr.trans ?_ (Gr.mono HG3.out ?_)|refine Gr.trans ?_ (Gr.mono HG2.out ?_)|omega|(simp;done)|(simp;omega)))))) h3).mono ?_;rintro e w6 ⟨v6,rfl,hS6,hg6⟩;(try (with_reducible replace hg6:=Gr.of_drew hg6));have hsz6:=hg6.size;(try simp at hsz6);have hz6_0:w.heap.size<w6.heap.size:=(by omega);have hz6_1:w.heap.size+1<w6.heap.size:=(by omega);obtain ⟨hc6,hf6⟩:=hg6.cells;have HG6:=Lib.hid hg6;clear hg6;have HS6:=Lib.hid hS6;clear hS6)
 (try dsimp only)
 refine hK.out _ _ ?_ (fun hH6=>?_)
 ·(first|exact trivial|((try dsimp only);simp [go_sem, *]))
 clear hK K hH5
 try simp only [pS]
 refine rd 11 (fun K hK=>?_)
 go_simp
 (refine(clip_Side m.sides v6 (w.heap.size+1+1) _ (by exact(HS6.out.sr.mono (by first|omega|(simp;done)|(simp;omega))).gr (by(with_reducible (repeat' (first|exact Gr.refl _ _|refine Gr.drew ?_|refine Gr.setCell ?_ ?_ _|refine Gr.alloc ?_ ?_ _|omega|(simp;done)|(simp;omega))))))).mono ?_;rintro e w7 ⟨v7,rfl,hS7,hg7⟩;(try (with_reducible replace hg7:=Gr.of_drew hg7));have hsz7:=hg7.size;(try simp at hsz7);have hz7_0:w.heap.size<w7.heap.size:=(by omega);have hz7_1:w.heap.size+1<w7.heap.size:=(by omega);obtain ⟨hc7,hf7⟩:=hg7.cells;have HG7:=Lib.hid hg7;clear hg7;have HS7:=Lib.hid hS7;clear hS7)
 (try dsimp only)
 refine hK.out _ _ ?_ (fun hH7=>?_)
 ·(first|exact trivial|((try dsimp only);simp [go_sem, *]))
 clear hK K hH6
 try simp only [pS]
 obtain ⟨a3,c3,rfl⟩:=HS3.out.at
 obtain ⟨a5,c5,rfl⟩:=HS5.out.at
 obtain ⟨a7,c7,rfl⟩:=HS7.out.at
 refine tk 12 (some 15) (.agg #[.slice a3 m.pts.length c3,.slice a5 m.tris.length c5,.slice a7 m.sides.length c7]) ?_
 try simp only [pS]
 refine rd 13 (fun K hK=>?_)
 go_simp
 (try dsimp only)
 refine hK.out _ _ ?_ (fun hH8=>?_)
 ·(first|exact trivial|((try dsimp only);simp [go_sem, *]))
 clear hK K hH7
 try simp only [pS]
 refine wpAnyH_done (by kernel_rfl) ?_ _
 go_wp2
 refine ret_row (g:=w.heap.size+1) Tryz.results35 rfl (VB.set (cs:= [.slice none 0 0,.slice none 0 0,.slice none 0 0]) ?_ [.slice a3 m.pts.length c3,.slice a5 m.tris.length c5,.slice a7 m.sides.length c7] rfl) Tryz.underlying63 rfl info_Mesh rfl ⟨_,_,_,rfl,⟨?_,?_,?_⟩,?_⟩
 ·(with_reducible (repeat' (first|(refine VB.new' ?_;exact(by first|omega|(simp;done)|(simp;omega)))|apply VB.put2|apply VB.put3|apply VB.put5|refine VB.drew ?_|refine VB.far ?_ ?_ _|refine VB.alloc ?_ _|refine VB.gr ?_ HG7.out ?_|refine VB.gr ?_ HG6.out ?_|refine VB.gr ?_ HG5.out ?_|refine VB.gr ?_ HG4.out ?_|refine VB.gr ?_ HG3.out ?_|refine VB.gr ?_ HG2.out ?_|omega|(simp;done)|(simp;omega))))
 ·exact SR.mono (SR.far (B:=w.heap.size+1+1) (SR.far (B:=w.heap.size+1+1) (SR.far (B:=w.heap.size+1+1) (HS3.out.gr (w':=w7) (by(with_reducible (repeat' (first|exact Gr.refl _ _|refine Gr.drew ?_|refine Gr.setCell ?_ ?_ _|refine Gr.alloc ?_ ?_ _|refine Gr.trans ?_ (Gr.mono HG7.out ?_)|refine Gr.trans ?_ (Gr.mono HG6.out ?_)|refine Gr.trans ?_ (Gr.mono HG5.out ?_)|refine Gr.trans ?_ (Gr.mono HG4.out ?_)|omega|(simp;done)|(simp;omega)))))) (by first|omega|(simp;done)|(simp;omega)) _) (by first|omega|(simp;done)|(simp;omega)) _) (by first|omega|(simp;done)|(simp;omega)) _) (by omega)
 ·exact SR.mono (SR.far (B:=w.heap.size+1+1) (SR.far (B:=w.heap.size+1+1) (SR.far (B:=w.heap.size+1+1) (HS5.out.gr (w':=w7) (by(with_reducible (repeat' (first|exact Gr.refl _ _|refine Gr.drew ?_|refine Gr.setCell ?_ ?_ _|refine Gr.alloc ?_ ?_ _|refine Gr.trans ?_ (Gr.mono HG7.out ?_)|refine Gr.trans ?_ (Gr.mono HG6.out ?_)|omega|(simp;done)|(simp;omega)))))) (by first|omega|(simp;done)|(simp;omega)) _) (by first|omega|(simp;done)|(simp;omega)) _) (by first|omega|(simp;done)|(simp;omega)) _) (by omega)
 ·exact SR.mono (SR.far (B:=w.heap.size+1+1) (SR.far (B:=w.heap.size+1+1) (SR.far (B:=w.heap.size+1+1) HS7.out (by first|omega|(simp;done)|(simp;omega)) _) (by first|omega|(simp;done)|(simp;omega)) _) (by first|omega|(simp;done)|(simp;omega)) _) (by omega)
 ·(with_reducible (repeat' (first|exact Gr.refl _ _|refine Gr.drew ?_|refine Gr.setCell ?_ ?_ _|refine Gr.alloc ?_ ?_ _|refine Gr.trans ?_ (Gr.mono HG7.out ?_)|refine Gr.trans ?_ (Gr.mono HG6.out ?_)|refine Gr.trans ?_ (Gr.mono HG5.out ?_)|refine Gr.trans ?_ (Gr.mono HG4.out ?_)|refine Gr.trans ?_ (Gr.mono HG3.out ?_)|refine Gr.trans ?_ (Gr.mono HG2.out ?_)|omega|(simp;done)|(simp;omega))))
end Go.Proofs.YtmelogdhllhjiaaGreat
