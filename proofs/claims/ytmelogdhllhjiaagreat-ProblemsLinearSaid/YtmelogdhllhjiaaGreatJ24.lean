/-
  Part 24 of the proof: ProbE ProbF ProbG Tri SortB.
-/
import Derived.Test.YtmelogdhllhjiaaGreatJ23
import Derived.Test.YtmelogdhllhjiaaGreatShelfD
set_option linter.unusedSimpArgs false
set_option linter.unusedVariables false
namespace Go.Proofs.YtmelogdhllhjiaaGreat
open Go.RowKit Gus
set_option maxRecDepth 20000 in
set_option maxHeartbeats 8000000 in
theorem looks_walk (w:World):Calls Tryz.prog 69 #[] w (fun e w'=> ∃g,e= .returned (.slice (some ⟨g,0,none⟩) 5 5)∧w.heap.size≤g∧VB w' g [.func (.func 101) #[] #[],.func (.func 102) #[] #[],.func (.func 103) #[] #[],.func (.func 104) #[] #[],.func (.func 106) #[] #[]]∧Gr w.heap.size w w'):=by
 go_enter Tryz.func69,Tryz.ntmps69
 go_wp2
 go_ret
 exact⟨_,rfl,Nat.le_refl _,VB.new' rfl,by(with_reducible (repeat' (first|exact Gr.refl _ _|refine Gr.drew ?_|refine Gr.setCell ?_ ?_ _|refine Gr.alloc ?_ ?_ _|omega|(simp;done)|(simp;omega))))⟩
theorem run_store_func {P:Program} (W:World) (a:Addr) (u:Value) (f:Fn) (x y:Array Value) (h:W.cell? a=some u) (hf:W.frozen? a=false):(store a (.func f x y)).run P W= .ok () (W.setCell a (.func f x y)):=by
 simp [store,Sem.run,h,hf]
theorem info_Prb:(Tryz.prog.info? 66).map (·.size)=some 26:=by kernel_rfl
abbrev prC (p:Prb):List Value:= [p.vp,p.vt,p.vs,.int .i64 (p.order:Int),.int .u64 (lowN (sz p.a.num)),.string (bigS (sz p.a.num)),.bool (ng p.a.num),.int .u64 (lowN (fm p.a)),.string (bigS (fm p.a)),.int .u64 (lowN (sz p.b.num)),.string (bigS (sz p.b.num)),.bool (ng p.b.num),.int .u64 (lowN (fm p.b)),.string (bigS (fm p.b)),.int .u64 (lowN (sz p.c.num)),.string (bigS (sz p.c.num)),.bool (ng p.c.num),.int .u64 (lowN (fm p.c)),.string (bigS (fm p.c)),.int .u64 (lowN (sz p.q.num)),.string (bigS (sz p.q.num)),.bool (ng p.q.num),.int .u64 (lowN (fm p.q)),.string (bigS (fm p.q)),p.f,p.gv]
theorem VB.prb {w:World} {g:Nat} {p:Prb} (h:VB w g (prC p)):w.cell? ⟨g,0,none⟩=some (p.vp)∧w.cell? ⟨g,1,none⟩=some (p.vt)∧w.cell? ⟨g,2,none⟩=some (p.vs)∧w.cell? ⟨g,3,none⟩=some (.int .i64 (p.order:Int))∧w.cell? ⟨g,4,none⟩=some (.int .u64 (lowN (sz p.a.num)))∧w.cell? ⟨g,5,none⟩=some (.string (bigS (sz p.a.num)))∧w.cell? ⟨g,6,none⟩=some (.bool (ng p.a.num))∧w.cell? ⟨g,7,none⟩=some (.int .u64 (lowN (fm p.a)))∧w.cell? ⟨g,8,none⟩=some (.string (bigS (fm p.a)))∧w.cell? ⟨g,9,none⟩=some (.int .u64 (lowN (sz p.b.num)))∧w.cell? ⟨g,10,none⟩=some (.string (bigS (sz p.b.num)))∧w.cell? ⟨g,11,none⟩=some (.bool (ng p.b.num))∧w.cell? ⟨g,12,none⟩=some (.int .u64 (lowN (fm p.b)))∧w.cell? ⟨g,13,none⟩=some (.string (bigS (fm p.b)))∧w.cell? ⟨g,14,none⟩=some (.int .u64 (lowN (sz p.c.num)))∧w.cell? ⟨g,15,none⟩=some (.string (bigS (sz p.c.num)))∧w.cell? ⟨g,16,none⟩=some (.bool (ng p.c.num))∧w.cell? ⟨g,17,none⟩=some (.int .u64 (lowN (fm p.c)))∧w.cell? ⟨g,18,none⟩=some (.string (bigS (fm p.c)))∧w.cell? ⟨g,19,none⟩=some (.int .u64 (lowN (sz p.q.num)))∧w.cell? ⟨g,20,none⟩=some (.string (bigS (sz p.q.num)))∧w.cell? ⟨g,21,none⟩=some (.bool (ng p.q.num))∧w.cell? ⟨g,22,none⟩=some (.int .u64 (lowN (fm p.q)))∧w.cell? ⟨g,23,none⟩=some (.string (bigS (fm p.q)))∧w.cell? ⟨g,24,none⟩=some (p.f)∧w.cell? ⟨g,25,none⟩=some (p.gv):=
 ⟨h.c 0 _ rfl,h.c 1 _ rfl,h.c 2 _ rfl,h.c 3 _ rfl,h.c 4 _ rfl,h.c 5 _ rfl,h.c 6 _ rfl,h.c 7 _ rfl,h.c 8 _ rfl,h.c 9 _ rfl,h.c 10 _ rfl,h.c 11 _ rfl,h.c 12 _ rfl,h.c 13 _ rfl,h.c 14 _ rfl,h.c 15 _ rfl,h.c 16 _ rfl,h.c 17 _ rfl,h.c 18 _ rfl,h.c 19 _ rfl,h.c 20 _ rfl,h.c 21 _ rfl,h.c 22 _ rfl,h.c 23 _ rfl,h.c 24 _ rfl,h.c 25 _ rfl⟩
set_option maxRecDepth 20000 in
set_option maxHeartbeats 8000000 in
theorem Check_raw {e5:Int} (p:Prb) (w:World) (h1:∀W,Gr w.heap.size w W→Calls Tryz.prog 101 #[prV p] W (Ret W (.int .i64 0))) (h2:∀W,Gr w.heap.size w W→Calls Tryz.prog 102 #[prV p] W (Ret W (.int .i64 0))) (h3:∀W,Gr w.heap.size w W→Calls Tryz.prog 103 #[prV p] W (Ret W (.int .i64 0))) (h4:∀W,Gr w.heap.size w W→Calls Tryz.prog 104 #[prV p] W (Ret W (.int .i64 0))) (h5:∀W,Gr w.heap.size w W→Calls Tryz.prog 106 #[prV p] W (Ret W (.int .i64 e5))):Calls Tryz.prog 40 #[prV p] w (Ret w (.int .i64 e5)):=by
 have h1:=Lib.hid h1
 have h2:=Lib.hid h2
 have h3:=Lib.hid h3
 have h4:=Lib.hid h4
 have h5:=Lib.hid h5
 have hL:=Lib.hid looks_walk
 have hst:= @run_store_func Tryz.prog
 go_enter Tryz.func40,Tryz.ntmps40
 go_wp2_with fail
 refine(hL.out _).mono ?_
 rintro e w1 ⟨gl,rfl,hgl,hV1,hg1⟩
 have hs1:=hg1.size
 (try simp at hs1 hgl)
 have HG1:=Lib.hid hg1
 have HV1:=Lib.hid hV1
 have hb0:VB w1 w.heap.size (prC p):=by(with_reducible (repeat' (first|(refine VB.new' ?_;exact(by first|omega|(simp;done)|(simp;omega)))|apply VB.put2|apply VB.put3|apply VB.put5|refine VB.drew ?_|refine VB.far ?_ ?_ _|refine VB.alloc ?_ _|refine VB.gr ?_ HG1.out ?_|omega|(simp;done)|(simp;omega))))
 have hb1:=Lib.hid hb0
 clear hb0
 clear hg1 hV1
 go_wp2
 go_loopw [8] (fun s wr=> ∃k:Nat,k≤5∧s= .int .i64 k∧Hid (VB wr w.heap.size (prC p))∧Hid (VB wr gl [.func (.func 101) #[] #[],.func (.func 102) #[] #[],.func (.func 103) #[] #[],.func (.func 104) #[] #[],.func (.func 106) #[] #[]])∧Hid (Gr w.heap.size w wr)∧Hid (k=5→e5=0)) (fun s _=>5 - (intOf s).toNat)
 case atStart=>exact⟨0,by omega,rfl,hb1,HV1,Lib.hid (by(with_reducible (repeat' (first|exact Gr.refl _ _|refine Gr.drew ?_|refine Gr.setCell ?_ ?_ _|refine Gr.alloc ?_ ?_ _|refine Gr.trans ?_ (Gr.mono HG1.out ?_)|omega|(simp;done)|(simp;omega))))),Lib.hid (fun h=>by omega)⟩
 case round=>
  obtain ⟨k,hk,rfl,HB,HF,HG,hx⟩:=hrel
  have hlb:=HB.out.lt
  have hlf:=HF.out.lt
  have hszr:=HG.out.size
  by_cases hlt:k<5
  ·obtain ⟨F,ek,hcell,hent,hcl,hk0⟩:∃(F:FuncId) (ek:Int),wr.cell? ⟨gl,k,none⟩=some (.func (.func F) #[] #[])∧(∀args w,(callFunc F args).run Tryz.prog w= .ok (.enter F args) w)∧Hid (∀W,Gr wr.heap.size wr W→Calls Tryz.prog F (#[prV p]++ #[]) W (Ret W (.int .i64 ek)))∧Hid ((k<4→ek=0)∧(k=4→ek=e5)):=by
    have gr:∀W,Gr wr.heap.size wr W→Gr w.heap.size w W:=fun W hW=>HG.out.trans (hW.mono hszr)
    rcases(show k=0∨k=1∨k=2∨k=3∨k=4 by omega)with rfl|rfl|rfl|rfl|rfl
    ·exact⟨_,_,HF.out.c 0 _ rfl,enters_of Tryz.func101 (by kernel_rfl) rfl,Lib.hid (fun W hW=>by rw [Array.append_empty];exact h1.out W (gr W hW)),Lib.hid ⟨fun h=>by first|rfl|omega,fun h=>by first|rfl|omega⟩⟩
    ·exact⟨_,_,HF.out.c 1 _ rfl,enters_of Tryz.func102 (by kernel_rfl) rfl,Lib.hid (fun W hW=>by rw [Array.append_empty];exact h2.out W (gr W hW)),Lib.hid ⟨fun h=>by first|rfl|omega,fun h=>by first|rfl|omega⟩⟩
    ·exact⟨_,_,HF.out.c 2 _ rfl,enters_of Tryz.func103 (by kernel_rfl) rfl,Lib.hid (fun W hW=>by rw [Array.append_empty];exact h3.out W (gr W hW)),Lib.hid ⟨fun h=>by first|rfl|omega,fun h=>by first|rfl|omega⟩⟩
    ·exact⟨_,_,HF.out.c 3 _ rfl,enters_of Tryz.func104 (by kernel_rfl) rfl,Lib.hid (fun W hW=>by rw [Array.append_empty];exact h4.out W (gr W hW)),Lib.hid ⟨fun h=>by first|rfl|omega,fun h=>by first|rfl|omega⟩⟩
    ·exact⟨_,_,HF.out.c 4 _ rfl,enters_of Tryz.func106 (by kernel_rfl) rfl,Lib.hid (fun W hW=>by rw [Array.append_empty];exact h5.out W (gr W hW)),Lib.hid ⟨fun h=>by first|rfl|omega,fun h=>by first|rfl|omega⟩⟩
   have hkz:(k:Int)<5:=by omega
   by_cases he:ek=0
   ·subst he
    go_wp2_with (first|(refine wpList_load_mid rfl 66 _ rfl w.heap.size 0 rfl (prC p) _ (VB.range (by(with_reducible (repeat' (first|(refine VB.new' ?_;exact(by first|omega|(simp;done)|(simp;omega)))|apply VB.put2|apply VB.put3|apply VB.put5|refine VB.drew ?_|refine VB.far ?_ ?_ _|refine VB.alloc ?_ _|exact HB.out|omega|(simp;done)|(simp;omega)))))) Tryz.underlying66 rfl info_Prb ?_)|(go_at_fn F;refine(hcl.out _ (by(with_reducible (repeat' (first|exact Gr.refl _ _|refine Gr.drew ?_|refine Gr.setCell ?_ ?_ _|refine Gr.alloc ?_ ?_ _|omega|(simp;done)|(simp;omega)))))).mono ?_;rintro e w2 ⟨rfl,hg2⟩;have HG2:=Lib.hid hg2;have hsz2:=hg2.size;(try simp at hsz2);clear hg2))
    go_roundw
    case rel=>exact⟨k+1,by omega,by go_num,Lib.hid (by(with_reducible (repeat' (first|(refine VB.new' ?_;exact(by first|omega|(simp;done)|(simp;omega)))|apply VB.put2|apply VB.put3|apply VB.put5|refine VB.drew ?_|refine VB.far ?_ ?_ _|refine VB.alloc ?_ _|exact HB.out|refine VB.gr ?_ HG2.out ?_|omega|(simp;done)|(simp;omega))))),Lib.hid (by(with_reducible (repeat' (first|(refine VB.new' ?_;exact(by first|omega|(simp;done)|(simp;omega)))|apply VB.put2|apply VB.put3|apply VB.put5|refine VB.drew ?_|refine VB.far ?_ ?_ _|refine VB.alloc ?_ _|exact HF.out|refine VB.gr ?_ HG2.out ?_|omega|(simp;done)|(simp;omega))))),Lib.hid (HG.out.trans (Gr.mono (by(with_reducible (repeat' (first|exact Gr.refl _ _|refine Gr.drew ?_|refine Gr.setCell ?_ ?_ _|refine Gr.alloc ?_ ?_ _|refine Gr.trans ?_ (Gr.mono HG2.out ?_)|omega|(simp;done)|(simp;omega)))):Gr wr.heap.size wr _) hszr)),Lib.hid (fun h=>(hk0.out.2 (by omega)).symm)⟩
    case measure=>simp [intOf];omega
   ·have hb:(ek != 0)=true:=by simp [he]
    have HE:=Lib.hid he
    clear he
    go_wp2_with (first|(refine wpList_load_mid rfl 66 _ rfl w.heap.size 0 rfl (prC p) _ (VB.range (by(with_reducible (repeat' (first|(refine VB.new' ?_;exact(by first|omega|(simp;done)|(simp;omega)))|apply VB.put2|apply VB.put3|apply VB.put5|refine VB.drew ?_|refine VB.far ?_ ?_ _|refine VB.alloc ?_ _|exact HB.out|omega|(simp;done)|(simp;omega)))))) Tryz.underlying66 rfl info_Prb ?_)|(go_at_fn F;refine(hcl.out _ (by(with_reducible (repeat' (first|exact Gr.refl _ _|refine Gr.drew ?_|refine Gr.setCell ?_ ?_ _|refine Gr.alloc ?_ ?_ _|omega|(simp;done)|(simp;omega)))))).mono ?_;rintro e w2 ⟨rfl,hg2⟩;have HG2:=Lib.hid hg2;have hsz2:=hg2.size;(try simp at hsz2);clear hg2))
    go_ret
    have e4:k=4:=by
     rcases Nat.lt_or_ge k 4 with h|h
     ·exact absurd (hk0.out.1 h) HE.out
     ·omega
    exact⟨by rw [←hk0.out.2 e4];rfl,HG.out.trans (Gr.mono (by(with_reducible (repeat' (first|exact Gr.refl _ _|refine Gr.drew ?_|refine Gr.setCell ?_ ?_ _|refine Gr.alloc ?_ ?_ _|refine Gr.trans ?_ (Gr.mono HG2.out ?_)|omega|(simp;done)|(simp;omega)))):Gr wr.heap.size wr _) hszr)⟩
  ·have hk5:k=5:=by omega
   have he:=hx.out hk5
   subst he hk5
   go_wp2
   go_ret
   exact⟨rfl,HG.out⟩
end Go.Proofs.YtmelogdhllhjiaaGreat
namespace Go.Proofs.YtmelogdhllhjiaaGreat
open Go.RowKit Gus
set_option maxRecDepth 20000 in
set_option maxHeartbeats 4000000 in
theorem looks1_raw {e:Int} (p:Prb) (w:World) (h:∀W,Gr w.heap.size w W→Calls Tryz.prog 105 #[.agg #[p.vp,p.vt,p.vs]] W (Ret W (.int .i64 e))):Calls Tryz.prog 104 #[prV p] w (Ret w (.int .i64 e)):=by
 have h:=Lib.hid h
 go_enter Tryz.func104,Tryz.ntmps104
 go_wp2_with fail
 (refine(h.out _ (by(with_reducible (repeat' (first|exact Gr.refl _ _|refine Gr.drew ?_|refine Gr.setCell ?_ ?_ _|refine Gr.alloc ?_ ?_ _|omega|(simp;done)|(simp;omega)))))).mono ?_;rintro e w1 ⟨rfl,hg1⟩;(try (with_reducible replace hg1:=Gr.of_drew hg1));have hsz1:=hg1.size;(try simp at hsz1);have hz1_0:w.heap.size<w1.heap.size:=(by omega);obtain ⟨hc1,hf1⟩:=hg1.cells;have HG1:=Lib.hid hg1;clear hg1)
 go_wp2
 go_ret
 exact⟨rfl,by(with_reducible (repeat' (first|exact Gr.refl _ _|refine Gr.drew ?_|refine Gr.setCell ?_ ?_ _|refine Gr.alloc ?_ ?_ _|refine Gr.trans ?_ (Gr.mono HG1.out ?_)|omega|(simp;done)|(simp;omega))))⟩
theorem info_Given:(Tryz.prog.info? 71).map (·.size)=some 5:=by kernel_rfl
theorem tells_find (n:Nat) (l:List Gv) (g:Nat) (w:World) (hV:VB w g [.int .i64 (n:Int)]):TellsIn gvV 174 #[.pointer (some ⟨g,0,none⟩)] (fun x=>decide (x.mark=n)) l w:=
 ⟨enters_of Tryz.func174 (by kernel_rfl) rfl,fun W hW x _=>by
  have e: #[gvV x]++ #[Value.pointer (some ⟨g,0,none⟩)]= #[gvV x,.pointer (some ⟨g,0,none⟩)]:=by simp
  rw [e]
  exact find1_raw x n g W (hV.gr hW hV.lt)⟩
set_option maxRecDepth 20000 in
set_option maxHeartbeats 4000000 in
theorem Find_none (p:Prb) (l:List Gv) (n:Nat) (w:World) (hS:SR gvC 5 71 w 0 p.gv l) (hn:idxP (fun x:Gv=>decide (x.mark=n)) l= -1):Calls Tryz.prog 143 #[prV p,.int .i64 (n:Int)] w (fun e w'=>e= .returned (.tuple #[.agg #[.int .i64 0,.bool false,.slice none 0 0,.slice none 0 0,.slice none 0 0],.bool false])∧Gr w.heap.size w w'):=by
 have hI:=Lib.hid (fun W g (hV:VB W g [.int .i64 (n:Int)]) (hW:Gr w.heap.size w W)=>hn ▸ index_Gv l p.gv 0 71 W (hS.gr hW) (tells_find n l g W hV))
 clear hS hn
 obtain ⟨vp,vt,vs,order,a,b,c,q,f,gv⟩:=p
 simp only at hI ⊢
 go_enter Tryz.func143,Tryz.ntmps143
 go_wp2_with fail
 (refine(hI.out _ (w.heap.size+1) (by(with_reducible (repeat' (first|(refine VB.new' ?_;exact(by first|omega|(simp;done)|(simp;omega)))|apply VB.put2|apply VB.put3|apply VB.put5|refine VB.drew ?_|refine VB.far ?_ ?_ _|refine VB.alloc ?_ _|omega|(simp;done)|(simp;omega))))) (by(with_reducible (repeat' (first|exact Gr.refl _ _|refine Gr.drew ?_|refine Gr.setCell ?_ ?_ _|refine Gr.alloc ?_ ?_ _|omega|(simp;done)|(simp;omega)))))).mono ?_;rintro e w1 ⟨rfl,hg1⟩;(try (with_reducible replace hg1:=Gr.of_drew hg1));have hsz1:=hg1.size;(try simp at hsz1);have hz1_0:w.heap.size<w1.heap.size:=(by omega);have hz1_1:w.heap.size+1<w1.heap.size:=(by omega);have hz1_2:w.heap.size+1+1<w1.heap.size:=(by omega);obtain ⟨hc1,hf1⟩:=hg1.cells;have HG1:=Lib.hid hg1;clear hg1)
 go_wp2
 refine ret_row2 (g:=w.heap.size+1+1) Tryz.results143 rfl rfl (VB.set (cs:= [.int .i64 0,.bool false,.slice none 0 0,.slice none 0 0,.slice none 0 0]) ?_ [.int .i64 0,.bool false,.slice none 0 0,.slice none 0 0,.slice none 0 0] rfl) Tryz.underlying71 rfl info_Given rfl ⟨rfl,?_⟩
 ·(with_reducible (repeat' (first|(refine VB.new' ?_;exact(by first|omega|(simp;done)|(simp;omega)))|apply VB.put2|apply VB.put3|apply VB.put5|refine VB.drew ?_|refine VB.far ?_ ?_ _|refine VB.alloc ?_ _|refine VB.gr ?_ HG1.out ?_|omega|(simp;done)|(simp;omega))))
 ·(with_reducible (repeat' (first|exact Gr.refl _ _|refine Gr.drew ?_|refine Gr.setCell ?_ ?_ _|refine Gr.alloc ?_ ?_ _|refine Gr.trans ?_ (Gr.mono HG1.out ?_)|omega|(simp;done)|(simp;omega))))
set_option maxRecDepth 20000 in
set_option maxHeartbeats 4000000 in
theorem Find_some (p:Prb) (l:List Gv) (n j:Nat) (x:Gv) (w:World) (hS:SR gvC 5 71 w 0 p.gv l) (hj:j<l.length) (hx:l[j]=x) (hn:idxP (fun x:Gv=>decide (x.mark=n)) l=j) (ha:∃(a:Option Addr) (c:Nat×Nat),x.u= .slice a c.1 c.2) (hb:∃(a:Option Addr) (c:Nat×Nat),x.g0= .slice a c.1 c.2) (hc:∃(a:Option Addr) (c:Nat×Nat),x.g1= .slice a c.1 c.2):Calls Tryz.prog 143 #[prV p,.int .i64 (n:Int)] w (fun e w'=>e= .returned (.tuple #[gvV x,.bool true])∧Gr w.heap.size w w'):=by
 have hI:=Lib.hid (fun W g (hV:VB W g [.int .i64 (n:Int)]) (hW:Gr w.heap.size w W)=>hn ▸ index_Gv l p.gv 0 71 W (hS.gr hW) (tells_find n l g W hV))
 have hl:=hS.len
 obtain ⟨gg,cap,hgv,_,_,_,hsh,hR⟩:=hS.block (by intro e;rw [e]at hj;simp at hj)
 have hlt:=hsh.lt
 obtain ⟨v0,v1,v2,v3,v4⟩:=hR.fGv hj hx
 have hj2:(j:Int)<(l.length:Int):=by omega
 have hj3:¬((j:Int)<0):=by omega
 have hl2:(l.length:Int)≤9223372036854775807:=by simp only [maxLen]at hl;omega
 obtain ⟨vp,vt,vs,order,a,b,c,q,f,gv⟩:=p
 obtain ⟨mark,fixed,u,g0,g1⟩:=x
 simp only at hI hgv v0 v1 v2 v3 v4 ha hb hc ⊢
 obtain ⟨ua,uc,rfl⟩:=ha
 obtain ⟨ub,ud,rfl⟩:=hb
 obtain ⟨ue,uf,rfl⟩:=hc
 subst hgv
 clear hS hn hR hsh hx hl
 go_enter Tryz.func143,Tryz.ntmps143
 go_wp2_with fail
 (refine(hI.out _ (w.heap.size+1) (by(with_reducible (repeat' (first|(refine VB.new' ?_;exact(by first|omega|(simp;done)|(simp;omega)))|apply VB.put2|apply VB.put3|apply VB.put5|refine VB.drew ?_|refine VB.far ?_ ?_ _|refine VB.alloc ?_ _|omega|(simp;done)|(simp;omega))))) (by(with_reducible (repeat' (first|exact Gr.refl _ _|refine Gr.drew ?_|refine Gr.setCell ?_ ?_ _|refine Gr.alloc ?_ ?_ _|omega|(simp;done)|(simp;omega)))))).mono ?_;rintro e w1 ⟨rfl,hg1⟩;(try (with_reducible replace hg1:=Gr.of_drew hg1));have hsz1:=hg1.size;(try simp at hsz1);have hy1_0:gg<w1.heap.size:=(by omega);have hz1_0:w.heap.size<w1.heap.size:=(by omega);have hz1_1:w.heap.size+1<w1.heap.size:=(by omega);have hz1_2:w.heap.size+1+1<w1.heap.size:=(by omega);obtain ⟨hc1,hf1⟩:=hg1.cells;have HG1:=Lib.hid hg1;clear hg1)
 have n1:¬gg=w.heap.size:=by omega
 have n2:¬gg=w.heap.size+1:=by omega
 have n3:¬gg=w.heap.size+1+1:=by omega
 have n4:gg<w.heap.size+1:=by omega
 have n5:gg<w.heap.size+1+1:=by omega
 have n6:gg<w.heap.size+1+1+1:=by omega
 go_wp2
 refine ret_row2 (g:=w.heap.size+1+1) Tryz.results143 rfl rfl (VB.set (cs:= [.int .i64 0,.bool false,.slice none 0 0,.slice none 0 0,.slice none 0 0]) ?_ [.int .i64 (mark:Int),.bool fixed,.slice ua uc.1 uc.2,.slice ub ud.1 ud.2,.slice ue uf.1 uf.2] rfl) Tryz.underlying71 rfl info_Given rfl ⟨rfl,?_⟩
 ·(with_reducible (repeat' (first|(refine VB.new' ?_;exact(by first|omega|(simp;done)|(simp;omega)))|apply VB.put2|apply VB.put3|apply VB.put5|refine VB.drew ?_|refine VB.far ?_ ?_ _|refine VB.alloc ?_ _|refine VB.gr ?_ HG1.out ?_|omega|(simp;done)|(simp;omega))))
 ·(with_reducible (repeat' (first|exact Gr.refl _ _|refine Gr.drew ?_|refine Gr.setCell ?_ ?_ _|refine Gr.alloc ?_ ?_ _|refine Gr.trans ?_ (Gr.mono HG1.out ?_)|omega|(simp;done)|(simp;omega))))
end Go.Proofs.YtmelogdhllhjiaaGreat
namespace Go.Proofs.YtmelogdhllhjiaaGreat
open Go.RowKit Gus
def hasT (t:Tri) (a:Nat):Bool:=([(t.1:Int),(t.2.1:Int),(t.2.2:Int)]).contains (a:Int)
theorem contains3 (t:Tri) (a:Nat) (g o c:Nat) (w:World) (h0:w.cell? ⟨g,o,none⟩=some (.int .i64 (t.1:Int))) (h1:w.cell? ⟨g,o+1,none⟩=some (.int .i64 (t.2.1:Int))) (h2:w.cell? ⟨g,o+2,none⟩=some (.int .i64 (t.2.2:Int))):
  Calls Tryz.prog 38 #[.slice (some ⟨g,o,none⟩) 3 c,.int .i64 (a:Int)] w (Ret w (.bool (hasT t a))):=
 (Tryz.slices_Contains_int g o 3 c [(t.1:Int),(t.2.1:Int),(t.2.2:Int)] (a:Int) w (by simp) (by omega) (fun j hj=>by
  match j,hj with
  | 0,_=>simpa using h0
  | 1,_=>simpa using h1
  | 2,_=>simpa using h2)).mono fun _ _ ⟨e,hw⟩=>⟨e,hw ▸ Gr.refl _ _⟩
set_option maxRecDepth 20000 in
set_option maxHeartbeats 4000000 in
theorem held1_walk (t:Tri) (a:Nat) (gs:Nat) (w:World) (hg:gs<w.heap.size) (hc:w.cell? ⟨gs,0,none⟩=some (.int .i64 (a:Int))):Calls Tryz.prog 145 #[triV t,.pointer (some ⟨gs,0,none⟩)] w (Ret w (.bool (hasT t a))):=by
 have hC:=Lib.hid (contains3 t a)
 generalize hasT t a=r at *
 have n1:¬gs=w.heap.size:=by omega
 have n2:gs<w.heap.size+1:=by omega
 go_enter Tryz.func145,Tryz.ntmps145
 go_wp2_with fail
 refine wp_region_held_drew (S:=(fun w'=>w'.cell? ⟨w.heap.size,0,none⟩=some (.int .i64 (t.1:Int))∧w'.cell? ⟨w.heap.size,1,none⟩=some (.int .i64 (t.2.1:Int))∧w'.cell? ⟨w.heap.size,2,none⟩=some (.int .i64 (t.2.2:Int))∧w'.cell? ⟨gs,0,none⟩=some (.int .i64 (a:Int)))) (by kernel_rfl) ?_ (fun hHeld=>?_)
 ·simp [go_sem, *]
 refine tk 0 (some 4) (.slice (some ⟨w.heap.size,0,none⟩) 3 3) ?_
 try simp only [pS]
 refine tk 1 (some 5) (.pointer (some ⟨gs,0,none⟩)) ?_
 try simp only [pS]
 refine tk 2 (some 6) (.int .i64 (a:Int)) ?_
 try simp only [pS]
 refine rd 3 (fun K hK=>?_)
 go_simp
 (refine(hC.out _ _ _ _ (by simp [go_sem, *]) (by simp [go_sem, *]) (by simp [go_sem, *])).mono ?_;rintro e w1 ⟨rfl,hg1⟩;(try (with_reducible replace hg1:=Gr.of_drew hg1));have hsz1:=hg1.size;(try simp at hsz1);have hy1_0:gs<w1.heap.size:=(by omega);have hz1_0:w.heap.size<w1.heap.size:=(by omega);obtain ⟨hc1,hf1⟩:=hg1.cells;have HG1:=Lib.hid hg1;clear hg1)
 (try dsimp only)
 refine hK.out _ _ ?_ (fun hH2=>?_)
 ·(first|exact trivial|((try dsimp only);simp [go_sem, *]))
 clear hK K hHeld
 try simp only [pS]
 refine tk 4 (some 3) (.bool r) ?_
 try simp only [pS]
 refine wpAnyH_done (by kernel_rfl) ?_ _
 go_wp2
 go_ret
 exact⟨rfl,by(with_reducible (repeat' (first|exact Gr.refl _ _|refine Gr.drew ?_|refine Gr.setCell ?_ ?_ _|refine Gr.alloc ?_ ?_ _|refine Gr.trans ?_ (Gr.mono HG1.out ?_)|omega|(simp;done)|(simp;omega))))⟩
end Go.Proofs.YtmelogdhllhjiaaGreat
namespace Go.Proofs.YtmelogdhllhjiaaGreat
open Go.RowKit Gus
def plS (s:Nat→Int):Nat→Int
 | 0=>1
 | k+1=>plS s k+(if s k=0 then 1 else 0)
def whereS (s:Nat→Int):Int:=if s 0= -1∨s 1= -1∨s 2= -1 then 0 else plS s 3
theorem plS_b (s:Nat→Int):∀k,1≤plS s k∧plS s k≤k+1
 | 0=>⟨by simp [plS],by simp [plS]⟩
 | k+1=>by
  have:=plS_b s k
  simp only [plS]
  split<;>omega
set_option maxRecDepth 20000 in
set_option maxHeartbeats 8000000 in
theorem Where_raw {a b c p:Pt} {n0 n1 n2:Int} {m0 m1 m2:Nat} (s:Nat→Int) (hB:∀w,Calls Tryz.prog 193 #[pV a,pV b,pV c,pV p] w (Ret w (.tuple #[f3V n0 m0 n1 m1 n2 m2,.int .i64 0])))
  (h0:∀w,Calls Tryz.prog 55 #[frV n0 m0] w (Ret w (.int .i64 (s 0)))) (h1:∀w,Calls Tryz.prog 55 #[frV n1 m1] w (Ret w (.int .i64 (s 1)))) (h2:∀w,Calls Tryz.prog 55 #[frV n2 m2] w (Ret w (.int .i64 (s 2)))) (w:World):
  Calls Tryz.prog 169 #[pV a,pV b,pV c,pV p] w (Ret w (.int .i64 (whereS s))):=by
 have hB:=Lib.hid hB
 have h0:=Lib.hid h0
 have h1:=Lib.hid h1
 have h2:=Lib.hid h2
 have HW:=Lib.hid (show whereS s=if s 0= -1∨s 1= -1∨s 2= -1 then 0 else plS s 3 from rfl)
 generalize whereS s=r at *
 go_enter Tryz.func169,Tryz.ntmps169
 go_wp2_with fail
 (refine(hB.out _).mono ?_;rintro e w1 ⟨rfl,hg1⟩;(try (with_reducible replace hg1:=Gr.of_drew hg1));have hsz1:=hg1.size;(try simp at hsz1);have hz1_0:w.heap.size<w1.heap.size:=(by omega);have hz1_1:w.heap.size+1<w1.heap.size:=(by omega);have hz1_2:w.heap.size+1+1<w1.heap.size:=(by omega);have hz1_3:w.heap.size+1+1+1<w1.heap.size:=(by omega);obtain ⟨hc1,hf1⟩:=hg1.cells;have HG1:=Lib.hid hg1;clear hg1)
 have HC:=Lib.hid (VB.new w1 [.int .u64 (lowN (sz n0)),.string (bigS (sz n0)),.bool (ng n0),.int .u64 (lowN m0),.string (bigS m0),.int .u64 (lowN (sz n1)),.string (bigS (sz n1)),.bool (ng n1),.int .u64 (lowN m1),.string (bigS m1),.int .u64 (lowN (sz n2)),.string (bigS (sz n2)),.bool (ng n2),.int .u64 (lowN m2),.string (bigS m2)] 39)
 go_wp2
 go_loopw [11,23] (fun pl s' wr=> ∃k:Nat,k≤3∧s'= .int .i64 k∧Hid (pl= .int .i64 (plS s k))∧Hid (∀i,i<k→s i≠ -1)∧Hid (VB wr w1.heap.size [.int .u64 (lowN (sz n0)),.string (bigS (sz n0)),.bool (ng n0),.int .u64 (lowN m0),.string (bigS m0),.int .u64 (lowN (sz n1)),.string (bigS (sz n1)),.bool (ng n1),.int .u64 (lowN m1),.string (bigS m1),.int .u64 (lowN (sz n2)),.string (bigS (sz n2)),.bool (ng n2),.int .u64 (lowN m2),.string (bigS m2)])∧Hid (Gr w.heap.size w wr)) (fun _ s' _=>3 - (intOf s').toNat)
 case atStart=>exact⟨0,by omega,rfl,Lib.hid rfl,Lib.hid (fun i h=>by omega),HC,Lib.hid (by(with_reducible (repeat' (first|exact Gr.refl _ _|refine Gr.drew ?_|refine Gr.setCell ?_ ?_ _|refine Gr.alloc ?_ ?_ _|refine Gr.trans ?_ (Gr.mono HG1.out ?_)|omega|(simp;done)|(simp;omega)))))⟩
 case round=>
  obtain ⟨k,hk,rfl,hpl,hne,HV,HG⟩:=hrel
  have hpl2:=hpl.out
  subst hpl2
  have hb:=plS_b s k
  have hlt1:=HV.out.lt
  have hszr:=HG.out.size
  by_cases hlt:k<3
  ·obtain ⟨n,m,hv,hcl⟩:∃(n:Int) (m:Nat),(wr.cell? ⟨w1.heap.size,k*5,none⟩=some (.int .u64 (lowN (sz n)))∧wr.cell? ⟨w1.heap.size,k*5+1,none⟩=some (.string (bigS (sz n)))∧wr.cell? ⟨w1.heap.size,k*5+2,none⟩=some (.bool (ng n))∧wr.cell? ⟨w1.heap.size,k*5+3,none⟩=some (.int .u64 (lowN m))∧wr.cell? ⟨w1.heap.size,k*5+4,none⟩=some (.string (bigS m)))∧Hid (∀w,Calls Tryz.prog 55 #[frV n m] w (Ret w (.int .i64 (s k)))):=by
    rcases(show k=0∨k=1∨k=2 by omega)with rfl|rfl|rfl
    ·exact⟨n0,m0,⟨HV.out.c 0 _ rfl,HV.out.c 1 _ rfl,HV.out.c 2 _ rfl,HV.out.c 3 _ rfl,HV.out.c 4 _ rfl⟩,h0⟩
    ·exact⟨n1,m1,⟨HV.out.c 5 _ rfl,HV.out.c 6 _ rfl,HV.out.c 7 _ rfl,HV.out.c 8 _ rfl,HV.out.c 9 _ rfl⟩,h1⟩
    ·exact⟨n2,m2,⟨HV.out.c 10 _ rfl,HV.out.c 11 _ rfl,HV.out.c 12 _ rfl,HV.out.c 13 _ rfl,HV.out.c 14 _ rfl⟩,h2⟩
   obtain ⟨v0,v1,v2,v3,v4⟩:=hv
   have hk3:(k:Int)<3:=by omega
   have HE:Hid (plS s (k+1)=plS s k+(if s k=0 then 1 else 0)):=rfl
   have hpb:IntKind.i64.wrap (plS s k+1)=plS s k+1:=by rw [IntKind.wrap_i64];omega
   generalize hsk:s k=sk at hcl HE
   have HSK:=Lib.hid hsk
   generalize plS s k=q at *
   clear hsk hb hpl
   by_cases e1:sk= -1
   ·subst e1
    go_wp2_with fail
    (refine(hcl.out _).mono ?_;rintro e w2 ⟨rfl,hg2⟩;(try (with_reducible replace hg2:=Gr.of_drew hg2));have hsz2:=hg2.size;(try simp at hsz2);have hy2_0:w1.heap.size<w2.heap.size:=(by omega);obtain ⟨hc2,hf2⟩:=hg2.cells;have HG2:=Lib.hid hg2;clear hg2)
    go_wp2
    go_ret
    have e:r=0:=by
     rw [HW.out]
     rcases(show k=0∨k=1∨k=2 by omega)with rfl|rfl|rfl
     ·rw [if_pos (.inl HSK.out)]
     ·rw [if_pos (.inr (.inl HSK.out))]
     ·rw [if_pos (.inr (.inr HSK.out))]
    exact⟨by rw [e];rfl,HG.out.trans (HG2.out.mono hszr)⟩
   ·by_cases e2:sk=0
    ·subst e2
     go_wp2_with fail
     (refine(hcl.out _).mono ?_;rintro e w2 ⟨rfl,hg2⟩;(try (with_reducible replace hg2:=Gr.of_drew hg2));have hsz2:=hg2.size;(try simp at hsz2);have hy2_0:w1.heap.size<w2.heap.size:=(by omega);obtain ⟨hc2,hf2⟩:=hg2.cells;have HG2:=Lib.hid hg2;clear hg2)
     go_wp2
     go_roundw
     case rel=>exact⟨k+1,by omega,by go_num,Lib.hid (by rw [HE.out];simp),Lib.hid (fun i hi=>by
      rcases Nat.lt_succ_iff_lt_or_eq.1 hi with h|h
      ·exact hne.out i h
      ·subst h;rw [HSK.out];omega),Lib.hid (by(with_reducible (repeat' (first|(refine VB.new' ?_;exact(by first|omega|(simp;done)|(simp;omega)))|apply VB.put2|apply VB.put3|apply VB.put5|refine VB.drew ?_|refine VB.far ?_ ?_ _|refine VB.alloc ?_ _|exact HV.out|refine VB.gr ?_ HG2.out ?_|omega|(simp;done)|(simp;omega))))),Lib.hid (HG.out.trans (HG2.out.mono hszr))⟩
     case measure=>simp [intOf];omega
    ·have b1:(sk == -1)=false:=by simp [e1]
     have b2:(sk == 0)=false:=by simp [e2]
     have HN:=Lib.hid (And.intro e1 e2)
     clear e1 e2
     go_wp2_with fail
     (refine(hcl.out _).mono ?_;rintro e w2 ⟨rfl,hg2⟩;(try (with_reducible replace hg2:=Gr.of_drew hg2));have hsz2:=hg2.size;(try simp at hsz2);have hy2_0:w1.heap.size<w2.heap.size:=(by omega);obtain ⟨hc2,hf2⟩:=hg2.cells;have HG2:=Lib.hid hg2;clear hg2)
     go_wp2
     go_roundw
     case rel=>exact⟨k+1,by omega,by go_num,Lib.hid (by rw [HE.out,if_neg HN.out.2];simp),Lib.hid (fun i hi=>by
      rcases Nat.lt_succ_iff_lt_or_eq.1 hi with h|h
      ·exact hne.out i h
      ·subst h;rw [HSK.out];exact HN.out.1),Lib.hid (by(with_reducible (repeat' (first|(refine VB.new' ?_;exact(by first|omega|(simp;done)|(simp;omega)))|apply VB.put2|apply VB.put3|apply VB.put5|refine VB.drew ?_|refine VB.far ?_ ?_ _|refine VB.alloc ?_ _|exact HV.out|refine VB.gr ?_ HG2.out ?_|omega|(simp;done)|(simp;omega))))),Lib.hid (HG.out.trans (HG2.out.mono hszr))⟩
     case measure=>simp [intOf];omega
  ·obtain rfl:k=3:=by omega
   go_wp2
   go_ret
   have e:r=plS s 3:=by
    rw [HW.out,if_neg]
    rintro (h|h|h)
    ·exact hne.out 0 (by omega) h
    ·exact hne.out 1 (by omega) h
    ·exact hne.out 2 (by omega) h
   exact⟨by rw [e];rfl,HG.out⟩
end Go.Proofs.YtmelogdhllhjiaaGreat
namespace Go.Proofs.YtmelogdhllhjiaaGreat
open Go.RowKit Gus
theorem eC_len (e:Edg):(eC e).length=4:=rfl
theorem eC_one (x:Edg):∀v∈eC x,v.oneCell'=true:=by
 intro v hv
 simp only [eC,List.mem_cons,List.not_mem_nil,or_false]at hv
 rcases hv with rfl|rfl|rfl|rfl<;>rfl
theorem ordE_lt (x y:Edg):ordE x y<0↔x.a<y.a∨x.a=y.a∧x.b<y.b:=by
 unfold ordE
 rcases Int.lt_trichotomy x.a y.a with h|h|h
 ·rw [cI_lt _ _ h,if_neg (by omega)];omega
 ·rw [cI_eq _ _ h,if_pos rfl]
  rcases Int.lt_trichotomy x.b y.b with h2|h2|h2
  ·rw [cI_lt _ _ (by omega)];omega
  ·rw [cI_eq _ _ (by omega)];omega
  ·rw [cI_gt _ _ (by omega)];omega
 ·rw [cI_gt _ _ h,if_neg (by omega)];omega
theorem swo_E:Sort.SWO (ltOf ordE):=by
 have e:∀a b,ltOf ordE a b=decide (a.a<b.a∨a.a=b.a∧a.b<b.b):=fun a b=>decide_eq_decide.2 (ordE_lt a b)
 refine⟨fun x=>?_,fun x y z=>?_,fun x y z=>?_⟩
 ·rw [e];simp
 ·rw [e,e,e];simp only [decide_eq_true_eq];omega
 ·rw [e,e,e];simp only [decide_eq_false_iff_not];omega
theorem orders_E:Orders eV 111 #[] ordE:=
 ⟨enters_of Tryz.func111 (by kernel_rfl) rfl,fun W x y=>by rw [Array.append_empty];exact ms_ordE x y W⟩
theorem sort_Edge (l:List Edg) (B g cap:Nat) (w:World) (hS:SL eC 4 135 w B (.slice (some ⟨g,0,none⟩) l.length cap) l) (hl:l.length<4611686018427387904):
  Calls Tryz.prog 110 #[.slice (some ⟨g,0,none⟩) l.length cap,.func (.func 111) #[] #[]] w (fun e w'=>e= .returned (.tuple #[])∧∃l':List Edg,l'.Perm l∧(l'.Pairwise fun a b=> ¬ordE b a<0)∧SL eC 4 135 w' B (.slice (some ⟨g,0,none⟩) l.length cap) l'∧Gr B w w'):=by
 obtain ⟨g',cap',e1,hBg,hcap,hcm,hsh,hR⟩:∃g' cap',Value.slice (some ⟨g,0,none⟩) l.length cap= .slice (some ⟨g',0,none⟩) l.length cap'∧B≤g'∧l.length≤cap'∧cap'≤maxLen∧Sh w g' 135 (cap'*4)∧RC eC 4 w g' l:=by
  rcases hS with⟨h,_⟩|h
  ·cases h
  ·exact h
 cases e1
 have hglt:=hsh.lt
 have hH:Sort.HoldsK eC 4 w g 0 l.toArray:=hR.holds eC_len hsh.frozen
 have hP:Calls Tryz.prog 110 #[.slice (some ⟨g,0,none⟩) l.length cap,.func (.func 111) #[] #[]] w (fun e w'=>e= .returned (.tuple #[])∧∃d' n os,Sort.PermIn 0 l.length l.toArray d'∧Sort.SortedIn (ltOf ordE) 0 l.length d'∧w'=sortWorldK eC 4 w g 0 n d' os):=
  AnyQ.slices_SortFunc Tryz.sortEdge 4 Tryz.isAgg135 Tryz.sizeOf135 eC eC_len eC_one ordE swo_E _ #[] g 0 cap l.toArray w orders_E.1 (orders_E.lays g 0 _ w) hH hglt hl
 refine hP.mono ?_
 rintro e w' ⟨he,d,n,os,hd,hD,rfl⟩
 have hsz:d.size=l.length:=hd.1
 refine⟨he,d.toList,?_,?_,SL.sorted hS eC_len n d hsz os,Gr.sorted hBg hglt n d os⟩
 ·have:=hd.2.2
  have e1:d.extract 0 l.length=d:=by rw [←hsz];simp
  rw [e1]at this
  simpa using this
 ·rw [List.pairwise_iff_getElem]
  intro i j hi hj hij
  have:=hD i j (Nat.zero_le _) hij (by simp at hj;omega)
  have hi':i<d.size:=by simpa using hi
  have hj':j<d.size:=by simpa using hj
  rw [getElem!_pos d j hj',getElem!_pos d i hi']at this
  simpa [ltOf] using this
set_option maxRecDepth 20000 in
set_option maxHeartbeats 4000000 in
theorem clip_Edge (l:List Edg) (v:Value) (B:Nat) (w:World) (hS:SR eC 4 135 w B v l):Calls Tryz.prog 112 #[v] w (fun e w'=> ∃v',e= .returned v'∧SR eC 4 135 w' B v' l∧Gr w.heap.size w w'):=by
 obtain ⟨a,c,rfl⟩:=hS.at
 obtain ⟨_,h1,h2⟩:=hS.cap
 have HS:=Lib.hid hS.clip
 have hl1:(l.length:Int)≤(c:Int):=by omega
 have hl2:(c:Int)≤9223372036854775807:=by simp only [maxLen]at h2;omega
 clear hS h2
 go_enter Tryz.func112,Tryz.ntmps112
 go_wp2
 go_ret
 exact⟨_,rfl,HS.out,Gr.refl _ _⟩
set_option maxRecDepth 20000 in
set_option maxHeartbeats 4000000 in
theorem clip_Gv (l:List Gv) (v:Value) (B:Nat) (w:World) (hS:SR gvC 5 71 w B v l):Calls Tryz.prog 39 #[v] w (fun e w'=> ∃v',e= .returned v'∧SR gvC 5 71 w' B v' l∧Gr w.heap.size w w'):=by
 obtain ⟨a,c,rfl⟩:=hS.at
 obtain ⟨_,h1,h2⟩:=hS.cap
 have HS:=Lib.hid hS.clip
 have hl1:(l.length:Int)≤(c:Int):=by omega
 have hl2:(c:Int)≤9223372036854775807:=by simp only [maxLen]at h2;omega
 clear hS h2
 go_enter Tryz.func39,Tryz.ntmps39
 go_wp2
 go_ret
 exact⟨_,rfl,HS.out,Gr.refl _ _⟩
end Go.Proofs.YtmelogdhllhjiaaGreat
