/-
  Part 23 of the proof: ProbC IndexB ProbD.
-/
import Derived.Test.YtmelogdhllhjiaaGreatJ22
import Derived.Test.YtmelogdhllhjiaaGreatJ21
set_option linter.unusedSimpArgs false
set_option linter.unusedVariables false
namespace Go.Proofs.YtmelogdhllhjiaaGreat
open Go.RowKit Gus Go.Maps
set_option maxRecDepth 20000 in
set_option maxHeartbeats 4000000 in
theorem Source_raw {a b c q:Rat} {l r1 r2 s d1 d2 t r:List T} (h1:∀(v:Value) (W:World),PL W 0 v l→Calls Tryz.prog 10 #[k3V a b c,v] W (fun e w'=> ∃v1 v2,e= .returned (.agg #[v1,v2])∧PL w' W.heap.size v1 r1∧PL w' W.heap.size v2 r2∧Gr W.heap.size W w'))
  (h2:Fn1 7 (fun v=> #[v,fracV q]) l s) (h3:Fn1 27 (fun v=> #[v]) r1 d1) (h4:Fn1 28 (fun v=> #[v]) r2 d2) (h5:Fn2 9 d1 d2 t) (h6:Fn2 26 s t r) (v:Value) (w:World) (hS:PL w 0 v l):
  Calls Tryz.prog 8 #[k3V a b c,fracV q,v] w (RetP w r):=by
 have h1:=Lib.hid h1
 have h2:=Lib.hid h2
 have h3:=Lib.hid h3
 have h4:=Lib.hid h4
 have h5:=Lib.hid h5
 have h6:=Lib.hid h6
 have HS:=Lib.hid hS
 clear hS
 go_enter Tryz.func8,Tryz.ntmps8
 go_wp2_with fail
 refine(h1.out v _ (by exact HS.out.gr (by(with_reducible (repeat' (first|exact Gr.refl _ _|refine Gr.drew ?_|refine Gr.setCell ?_ ?_ _|refine Gr.alloc ?_ ?_ _|omega|(simp;done)|(simp;omega))))))).mono ?_
 rintro e w1 ⟨u1,u2,rfl,hU1,hU2,hg1⟩
 obtain ⟨a1,c1,rfl⟩:=hU1.at
 obtain ⟨a2,c2,rfl⟩:=hU2.at
 have hsz1:=hg1.size
 (try simp at hsz1)
 have hz1_0:w.heap.size<w1.heap.size:=by omega
 have hz1_1:w.heap.size+1<w1.heap.size:=by omega
 have hz1_2:¬w.heap.size+1=w1.heap.size:=by omega
 obtain ⟨hc1,hf1⟩:=hg1.cells
 have HG1:=Lib.hid hg1
 have HU1:=Lib.hid hU1
 have HU2:=Lib.hid hU2
 clear hg1 hU1 hU2
 go_wp2_with fail
 refine wp_region_held_drew (S:=(fun w'=>w'.cell? ⟨w.heap.size+1,0,none⟩=some (.int .u64 (lowN (sz q.num)))∧w'.cell? ⟨w.heap.size+1,1,none⟩=some (.string (bigS (sz q.num)))∧w'.cell? ⟨w.heap.size+1,2,none⟩=some (.bool (ng q.num))∧w'.cell? ⟨w.heap.size+1,3,none⟩=some (.int .u64 (lowN (fm q)))∧w'.cell? ⟨w.heap.size+1,4,none⟩=some (.string (bigS (fm q)))∧w'.cell? ⟨w1.heap.size,0,none⟩=some (.slice a1 r1.length c1)∧w'.cell? ⟨w1.heap.size,1,none⟩=some (.slice a2 r2.length c2))) (by kernel_rfl) ?_ (fun hHeld=>?_)
 ·simp [go_sem, *]
 refine tk 0 (some 11) (v) ?_
 try simp only [pS]
 refine tk 1 (some 12) (fracV q) ?_
 try simp only [pS]
 refine tk 3 (some 14) (.pointer (some ⟨w1.heap.size,0,none⟩)) ?_
 try simp only [pS]
 refine tk 4 (some 15) (.slice a1 r1.length c1) ?_
 try simp only [pS]
 refine tk 6 (some 17) (.pointer (some ⟨w1.heap.size,1,none⟩)) ?_
 try simp only [pS]
 refine tk 7 (some 18) (.slice a2 r2.length c2) ?_
 try simp only [pS]
 refine rd 2 (fun K hK=>?_)
 go_simp
 (refine(h2.out v _ (by exact HS.out.gr (by(with_reducible (repeat' (first|exact Gr.refl _ _|refine Gr.drew ?_|refine Gr.setCell ?_ ?_ _|refine Gr.alloc ?_ ?_ _|refine Gr.trans ?_ (Gr.mono HG1.out ?_)|omega|(simp;done)|(simp;omega))))))).mono ?_;rintro e w2 ⟨v2,rfl,hS2,hg2⟩;(try (with_reducible replace hg2:=Gr.of_drew hg2));have hsz2:=hg2.size;(try simp at hsz2);have hy2_0:w1.heap.size<w2.heap.size:=(by omega);have hz2_0:w.heap.size<w2.heap.size:=(by omega);have hz2_1:w.heap.size+1<w2.heap.size:=(by omega);obtain ⟨hc2,hf2⟩:=hg2.cells;have HG2:=Lib.hid hg2;clear hg2;have HS2:=Lib.hid hS2;clear hS2)
 (try dsimp only)
 refine hK.out _ _ ?_ (fun hH2=>?_)
 ·(first|exact trivial|((try dsimp only);simp [go_sem, *]))
 clear hK K hHeld
 try simp only [pS]
 refine rd 5 (fun K hK=>?_)
 go_simp
 (refine(h3.out _ _ (by exact(HU1.out.mono (Nat.zero_le _)).gr (by(with_reducible (repeat' (first|exact Gr.refl _ _|refine Gr.drew ?_|refine Gr.setCell ?_ ?_ _|refine Gr.alloc ?_ ?_ _|refine Gr.trans ?_ (Gr.mono HG2.out ?_)|omega|(simp;done)|(simp;omega))))))).mono ?_;rintro e w3 ⟨v3,rfl,hS3,hg3⟩;(try (with_reducible replace hg3:=Gr.of_drew hg3));have hsz3:=hg3.size;(try simp at hsz3);have hy3_0:w1.heap.size<w3.heap.size:=(by omega);have hz3_0:w.heap.size<w3.heap.size:=(by omega);have hz3_1:w.heap.size+1<w3.heap.size:=(by omega);obtain ⟨hc3,hf3⟩:=hg3.cells;have HG3:=Lib.hid hg3;clear hg3;have HS3:=Lib.hid hS3;clear hS3)
 (try dsimp only)
 refine hK.out _ _ ?_ (fun hH3=>?_)
 ·(first|exact trivial|((try dsimp only);simp [go_sem, *]))
 clear hK K hH2
 try simp only [pS]
 refine rd 8 (fun K hK=>?_)
 go_simp
 (refine(h4.out _ _ (by exact(HU2.out.mono (Nat.zero_le _)).gr (by(with_reducible (repeat' (first|exact Gr.refl _ _|refine Gr.drew ?_|refine Gr.setCell ?_ ?_ _|refine Gr.alloc ?_ ?_ _|refine Gr.trans ?_ (Gr.mono HG3.out ?_)|refine Gr.trans ?_ (Gr.mono HG2.out ?_)|omega|(simp;done)|(simp;omega))))))).mono ?_;rintro e w4 ⟨v4,rfl,hS4,hg4⟩;(try (with_reducible replace hg4:=Gr.of_drew hg4));have hsz4:=hg4.size;(try simp at hsz4);have hy4_0:w1.heap.size<w4.heap.size:=(by omega);have hz4_0:w.heap.size<w4.heap.size:=(by omega);have hz4_1:w.heap.size+1<w4.heap.size:=(by omega);obtain ⟨hc4,hf4⟩:=hg4.cells;have HG4:=Lib.hid hg4;clear hg4;have HS4:=Lib.hid hS4;clear hS4)
 (try dsimp only)
 refine hK.out _ _ ?_ (fun hH4=>?_)
 ·(first|exact trivial|((try dsimp only);simp [go_sem, *]))
 clear hK K hH3
 try simp only [pS]
 refine rd 9 (fun K hK=>?_)
 go_simp
 (refine(h5.out v3 v4 _ (by exact(HS3.out.mono (Nat.zero_le _)).gr (by(with_reducible (repeat' (first|exact Gr.refl _ _|refine Gr.drew ?_|refine Gr.setCell ?_ ?_ _|refine Gr.alloc ?_ ?_ _|refine Gr.trans ?_ (Gr.mono HG4.out ?_)|omega|(simp;done)|(simp;omega)))))) (by exact(HS4.out.mono (Nat.zero_le _)).gr (by(with_reducible (repeat' (first|exact Gr.refl _ _|refine Gr.drew ?_|refine Gr.setCell ?_ ?_ _|refine Gr.alloc ?_ ?_ _|omega|(simp;done)|(simp;omega))))))).mono ?_;rintro e w5 ⟨v5,rfl,hS5,hg5⟩;(try (with_reducible replace hg5:=Gr.of_drew hg5));have hsz5:=hg5.size;(try simp at hsz5);have hy5_0:w1.heap.size<w5.heap.size:=(by omega);have hz5_0:w.heap.size<w5.heap.size:=(by omega);have hz5_1:w.heap.size+1<w5.heap.size:=(by omega);obtain ⟨hc5,hf5⟩:=hg5.cells;have HG5:=Lib.hid hg5;clear hg5;have HS5:=Lib.hid hS5;clear hS5)
 (try dsimp only)
 refine hK.out _ _ ?_ (fun hH5=>?_)
 ·(first|exact trivial|((try dsimp only);simp [go_sem, *]))
 clear hK K hH4
 try simp only [pS]
 refine rd 10 (fun K hK=>?_)
 go_simp
 (refine(h6.out v2 v5 _ (by exact(HS2.out.mono (Nat.zero_le _)).gr (by(with_reducible (repeat' (first|exact Gr.refl _ _|refine Gr.drew ?_|refine Gr.setCell ?_ ?_ _|refine Gr.alloc ?_ ?_ _|refine Gr.trans ?_ (Gr.mono HG5.out ?_)|refine Gr.trans ?_ (Gr.mono HG4.out ?_)|refine Gr.trans ?_ (Gr.mono HG3.out ?_)|omega|(simp;done)|(simp;omega)))))) (by exact(HS5.out.mono (Nat.zero_le _)).gr (by(with_reducible (repeat' (first|exact Gr.refl _ _|refine Gr.drew ?_|refine Gr.setCell ?_ ?_ _|refine Gr.alloc ?_ ?_ _|omega|(simp;done)|(simp;omega))))))).mono ?_;rintro e w6 ⟨v6,rfl,hS6,hg6⟩;(try (with_reducible replace hg6:=Gr.of_drew hg6));have hsz6:=hg6.size;(try simp at hsz6);have hy6_0:w1.heap.size<w6.heap.size:=(by omega);have hz6_0:w.heap.size<w6.heap.size:=(by omega);have hz6_1:w.heap.size+1<w6.heap.size:=(by omega);obtain ⟨hc6,hf6⟩:=hg6.cells;have HG6:=Lib.hid hg6;clear hg6;have HS6:=Lib.hid hS6;clear hS6)
 (try dsimp only)
 refine hK.out _ _ ?_ (fun hH6=>?_)
 ·(first|exact trivial|((try dsimp only);simp [go_sem, *]))
 clear hK K hH5
 try simp only [pS]
 refine tk 11 (some 6) (v6) ?_
 try simp only [pS]
 refine wpAnyH_done (by kernel_rfl) ?_ _
 go_wp2
 go_ret
 exact⟨_,rfl,SL.mono HS6.out (by first|omega|(simp;done)|(simp;omega)),by(with_reducible (repeat' (first|exact Gr.refl _ _|refine Gr.drew ?_|refine Gr.setCell ?_ ?_ _|refine Gr.alloc ?_ ?_ _|refine Gr.trans ?_ (Gr.mono HG6.out ?_)|refine Gr.trans ?_ (Gr.mono HG5.out ?_)|refine Gr.trans ?_ (Gr.mono HG4.out ?_)|refine Gr.trans ?_ (Gr.mono HG3.out ?_)|refine Gr.trans ?_ (Gr.mono HG2.out ?_)|refine Gr.trans ?_ (Gr.mono HG1.out ?_)|omega|(simp;done)|(simp;omega))))⟩
def sourceL (a b c q:Rat) (l:List T):List T:=subL (scaleL q l) (addL (dxL (flow1 a b l)) (dyL (flow1 b c l)))
theorem pr_Source (a b c q:Rat) (l:List T) (v:Value) (w:World) (hS:PL w 0 v l) (hok:∀t∈l,t.ok) (ht:tot l*(72*(hw a+hw b+hw c+hw q+4))≤100000000000):
  Calls Tryz.prog 8 #[k3V a b c,fracV q,v] w (RetP w (sourceL a b c q l)):=by
 have hm:∀p,p≤72*(hw a+hw b+hw c+hw q+4)→tot l*p≤100000000000:=fun p hp=>Nat.le_trans (Nat.mul_le_mul_left _ hp) ht
 have f1:=tot_flow1 (a:=a) (b:=b) hok
 have f2:=tot_flow1 (a:=b) (b:=c) hok
 have o1:=ok_flow1 (a:=a) (b:=b) hok
 have o2:=ok_flow1 (a:=b) (b:=c) hok
 have d1:=tot_dxL o1;have d2:=tot_dyL o2
 have s1:=tot_scaleL q l
 have t1:=tot_addL (dxL (flow1 a b l)) (dyL (flow1 b c l))
 have b1:=hm (36*(hw a+hw b+2)+36*(hw b+hw c+2)+(hw q+1)) (by omega)
 have b2:=hm (3*(hw a+hw b+hw c+4)) (by omega)
 have b3:=hm (hw q+2) (by omega)
 rw [Nat.mul_add,Nat.mul_add]at b1
 have e1:tot l*(36*(hw a+hw b+2))=tot l*(3*(hw a+hw b+2))*12:=by rw [Nat.mul_assoc];congr 1;omega
 have e2:tot l*(36*(hw b+hw c+2))=tot l*(3*(hw b+hw c+2))*12:=by rw [Nat.mul_assoc];congr 1;omega
 exact Source_raw (fun v W h=>pr_Flow a b c l v W h hok b2) (fun v W h=>po_Scale q l v W h hok b3) (fun v W h=>po_Dx (flow1 a b l) v W h o1 (by omega)) (fun v W h=>po_Dy (flow1 b c l) v W h o2 (by omega))
  (fun v u W h h'=>po_Add (dxL (flow1 a b l)) (dyL (flow1 b c l)) v u W h h' (ok_dxL o1) (ok_dyL o2) (by omega)) (fun v u W h h'=>po_Sub (scaleL q l) (addL (dxL (flow1 a b l)) (dyL (flow1 b c l))) v u W h h' (ok_scaleL hok) (ok_addL (ok_dxL o1) (ok_dyL o2)) (by omega)) v w hS
end Go.Proofs.YtmelogdhllhjiaaGreat
namespace Go.Proofs.YtmelogdhllhjiaaGreat
open Go.RowKit Gus
abbrev pvC (x:Value×List T):List Value:= [x.1]
abbrev pvV (x:Value×List T):Value:=x.1
structure Gv where
 mark:Nat
 fixed:Bool
 u:Value
 g0:Value
 g1:Value
abbrev gvC (x:Gv):List Value:= [.int .i64 (x.mark:Int),.bool x.fixed,x.u,x.g0,x.g1]
abbrev gvV (x:Gv):Value:= .agg (gvC x).toArray
theorem RC.fPoly {w:World} {g:Nat} {l:List (Value×List T)} (h:RC pvC 1 w g l) {j:Nat} (hj:j<l.length) {y:Value×List T} (hy:l[j]=y):w.cell? ⟨g,j,none⟩=some (y.1):=by
 subst hy
 exact by have:=h j hj 0 _ rfl;simpa using this
theorem pvC_len (x:Value×List T):(pvC x).length=1:=rfl
set_option maxRecDepth 20000 in
set_option maxHeartbeats 4000000 in
theorem index_Poly {p:Value×List T→Bool} {F:FuncId} {cb:Array Value} (l:List (Value×List T)) (v:Value) (B:Nat) (t:TypeId) (w:World) (hS:SR pvC 1 t w B v l) (hp:TellsIn pvV F cb p l w):
  Calls Tryz.prog 187 #[v,.func (.func F) #[] cb] w (Ret w (.int .i64 (idxP p l))):=by
 obtain ⟨eg,hp⟩:=hp
 obtain ⟨a,cap,rfl⟩:=hS.at
 have hl:=hS.len
 have HS:=Lib.hid hS
 have HP:=Lib.hid hp
 have hl2:(l.length:Int)≤9223372036854775807:=by simp only [maxLen]at hl;omega
 clear hS hp hl
 go_enter Tryz.func187,Tryz.ntmps187
 go_wp2
 go_loopw [8] (fun s wr=> ∃j:Nat,j≤l.length∧s= .int .i64 j∧Hid (∀i (hi:i<l.length),i<j→p l[i]=false)∧Gr w.heap.size w wr) (fun s _=>l.length - (intOf s).toNat)
 case atStart=>exact⟨0,Nat.zero_le _,rfl,fun i _ h=>by omega,Gr.refl _ _⟩
 case round=>
  obtain ⟨j,hj,rfl,hf,hgr⟩:=hrel
  by_cases hlt:j<l.length
  ·obtain ⟨y,hy⟩:∃y,l[j]=y:=⟨_,rfl⟩
   obtain ⟨g,cap',e1,_,_,_,hsh,hR⟩:=(HS.out.gr hgr).block (by intro e;rw [e]at hlt;simp at hlt)
   injection e1 with e1 _ e2
   subst e1 e2
   obtain v0:=hR.fPoly hlt hy
   have HC:=Lib.hid (HP.out wr hgr y (hy ▸ List.getElem_mem hlt))
   have HY:=Lib.hid hy
   have HG:=Lib.hid hgr
   clear hgr hy hR hsh
   cases hq:p y with
   | true=>
    rw [hq]at HC
    go_wp2_with (go_at_fn F;refine HC.out.mono ?_;rintro e w1 ⟨rfl,hg1⟩;have HG1:=Lib.hid hg1;clear hg1)
    go_ret
    have e:idxP p l=j:=by
     unfold idxP
     rw [List.findIdx?_eq_some_iff_getElem.2 ⟨hlt,by rw [HY.out];exact hq,fun i hi=>by rw [hf.out i (by omega) hi];simp⟩]
    exact⟨by rw [e];rfl,HG.out.trans (HG1.out.mono HG.out.size)⟩
   | false=>
    rw [hq]at HC
    go_wp2_with (go_at_fn F;refine HC.out.mono ?_;rintro e w1 ⟨rfl,hg1⟩;have HG1:=Lib.hid hg1;clear hg1)
    go_roundw
    case rel=>exact⟨j+1,by omega,by go_num,fun i hi h=>by
     rcases Nat.lt_succ_iff_lt_or_eq.1 h with h|h
     ·exact hf.out i hi h
     ·subst h;rw [HY.out];exact hq,HG.out.trans (HG1.out.mono HG.out.size)⟩
    case measure=>simp [intOf];omega
  ·obtain rfl:j=l.length:=by omega
   have HG:=Lib.hid hgr
   clear hgr
   go_wp2
   go_ret
   have e:idxP p l= -1:=by
    unfold idxP
    rw [List.findIdx?_eq_none_iff.2 fun x hx=>by
     obtain ⟨i,hi,rfl⟩:=List.getElem_of_mem hx
     simp [hf.out i hi hi]]
   exact⟨by rw [e];rfl,HG.out⟩
set_option maxRecDepth 20000 in
set_option maxHeartbeats 4000000 in
theorem contains_Poly {p:Value×List T→Bool} {F:FuncId} {cb:Array Value} (l:List (Value×List T)) (v:Value) (B:Nat) (t:TypeId) (w:World) (hS:SR pvC 1 t w B v l) (hp:TellsIn pvV F cb p l w):
  Calls Tryz.prog 160 #[v,.func (.func F) #[] cb] w (Ret w (.bool (l.any p))):=by
 have hI:=Lib.hid (index_Poly l v B t w hS hp)
 have HE:=Lib.hid (idxP_nonneg p l)
 clear hS hp
 generalize idxP p l=r at *
 go_enter Tryz.func160,Tryz.ntmps160
 go_wp2_with fail
 (refine(hI.out).mono ?_;rintro e w1 ⟨rfl,hg1⟩;(try (with_reducible replace hg1:=Gr.of_drew hg1));have hsz1:=hg1.size;(try simp at hsz1);skip;obtain ⟨hc1,hf1⟩:=hg1.cells;have HG1:=Lib.hid hg1;clear hg1)
 go_wp2
 go_ret
 exact⟨by rw [←HE.out];simp,HG1.out⟩
theorem RC.fGv {w:World} {g:Nat} {l:List (Gv)} (h:RC gvC 5 w g l) {j:Nat} (hj:j<l.length) {y:Gv} (hy:l[j]=y):w.cell? ⟨g,j*5,none⟩=some (.int .i64 (y.mark:Int))∧w.cell? ⟨g,j*5+1,none⟩=some (.bool y.fixed)∧w.cell? ⟨g,j*5+2,none⟩=some (y.u)∧w.cell? ⟨g,j*5+3,none⟩=some (y.g0)∧w.cell? ⟨g,j*5+4,none⟩=some (y.g1):=by
 subst hy
 exact⟨h j hj 0 _ rfl,h j hj 1 _ rfl,h j hj 2 _ rfl,h j hj 3 _ rfl,h j hj 4 _ rfl⟩
theorem gvC_len (x:Gv):(gvC x).length=5:=rfl
set_option maxRecDepth 20000 in
set_option maxHeartbeats 4000000 in
theorem index_Gv {p:Gv→Bool} {F:FuncId} {cb:Array Value} (l:List (Gv)) (v:Value) (B:Nat) (t:TypeId) (w:World) (hS:SR gvC 5 t w B v l) (hp:TellsIn gvV F cb p l w):
  Calls Tryz.prog 173 #[v,.func (.func F) #[] cb] w (Ret w (.int .i64 (idxP p l))):=by
 obtain ⟨eg,hp⟩:=hp
 obtain ⟨a,cap,rfl⟩:=hS.at
 have hl:=hS.len
 have HS:=Lib.hid hS
 have HP:=Lib.hid hp
 have hl2:(l.length:Int)≤9223372036854775807:=by simp only [maxLen]at hl;omega
 clear hS hp hl
 go_enter Tryz.func173,Tryz.ntmps173
 go_wp2
 go_loopw [8] (fun s wr=> ∃j:Nat,j≤l.length∧s= .int .i64 j∧Hid (∀i (hi:i<l.length),i<j→p l[i]=false)∧Gr w.heap.size w wr) (fun s _=>l.length - (intOf s).toNat)
 case atStart=>exact⟨0,Nat.zero_le _,rfl,fun i _ h=>by omega,Gr.refl _ _⟩
 case round=>
  obtain ⟨j,hj,rfl,hf,hgr⟩:=hrel
  by_cases hlt:j<l.length
  ·obtain ⟨y,hy⟩:∃y,l[j]=y:=⟨_,rfl⟩
   obtain ⟨g,cap',e1,_,_,_,hsh,hR⟩:=(HS.out.gr hgr).block (by intro e;rw [e]at hlt;simp at hlt)
   injection e1 with e1 _ e2
   subst e1 e2
   obtain ⟨v0,v1,v2,v3,v4⟩:=hR.fGv hlt hy
   have HC:=Lib.hid (HP.out wr hgr y (hy ▸ List.getElem_mem hlt))
   have HY:=Lib.hid hy
   have HG:=Lib.hid hgr
   clear hgr hy hR hsh
   cases hq:p y with
   | true=>
    rw [hq]at HC
    go_wp2_with (go_at_fn F;refine HC.out.mono ?_;rintro e w1 ⟨rfl,hg1⟩;have HG1:=Lib.hid hg1;clear hg1)
    go_ret
    have e:idxP p l=j:=by
     unfold idxP
     rw [List.findIdx?_eq_some_iff_getElem.2 ⟨hlt,by rw [HY.out];exact hq,fun i hi=>by rw [hf.out i (by omega) hi];simp⟩]
    exact⟨by rw [e];rfl,HG.out.trans (HG1.out.mono HG.out.size)⟩
   | false=>
    rw [hq]at HC
    go_wp2_with (go_at_fn F;refine HC.out.mono ?_;rintro e w1 ⟨rfl,hg1⟩;have HG1:=Lib.hid hg1;clear hg1)
    go_roundw
    case rel=>exact⟨j+1,by omega,by go_num,fun i hi h=>by
     rcases Nat.lt_succ_iff_lt_or_eq.1 h with h|h
     ·exact hf.out i hi h
     ·subst h;rw [HY.out];exact hq,HG.out.trans (HG1.out.mono HG.out.size)⟩
    case measure=>simp [intOf];omega
  ·obtain rfl:j=l.length:=by omega
   have HG:=Lib.hid hgr
   clear hgr
   go_wp2
   go_ret
   have e:idxP p l= -1:=by
    unfold idxP
    rw [List.findIdx?_eq_none_iff.2 fun x hx=>by
     obtain ⟨i,hi,rfl⟩:=List.getElem_of_mem hx
     simp [hf.out i hi hi]]
   exact⟨by rw [e];rfl,HG.out⟩
end Go.Proofs.YtmelogdhllhjiaaGreat
namespace Go.Proofs.YtmelogdhllhjiaaGreat
open Go.RowKit Gus
structure Prb where
 vp:Value
 vt:Value
 vs:Value
 order:Nat
 a:Rat
 b:Rat
 c:Rat
 q:Rat
 f:Value
 gv:Value
abbrev prV (p:Prb):Value:= .agg #[p.vp,p.vt,p.vs,.int .i64 (p.order:Int),.int .u64 (lowN (sz p.a.num)),.string (bigS (sz p.a.num)),.bool (ng p.a.num),.int .u64 (lowN (fm p.a)),.string (bigS (fm p.a)),.int .u64 (lowN (sz p.b.num)),.string (bigS (sz p.b.num)),.bool (ng p.b.num),.int .u64 (lowN (fm p.b)),.string (bigS (fm p.b)),.int .u64 (lowN (sz p.c.num)),.string (bigS (sz p.c.num)),.bool (ng p.c.num),.int .u64 (lowN (fm p.c)),.string (bigS (fm p.c)),.int .u64 (lowN (sz p.q.num)),.string (bigS (sz p.q.num)),.bool (ng p.q.num),.int .u64 (lowN (fm p.q)),.string (bigS (fm p.q)),p.f,p.gv]
set_option maxRecDepth 20000 in
set_option maxHeartbeats 8000000 in
theorem degrees1_raw {d:Int} (v:Value) (w:World) (h:Calls Tryz.prog 15 #[v] w (Ret w (.int .i64 d))):Calls Tryz.prog 161 #[v] w (Ret w (.bool (decide (8<d)))):=by
 have h:=Lib.hid h
 go_enter Tryz.func161,Tryz.ntmps161
 go_wp2_with fail
 (refine(h.out).mono ?_;rintro e w1 ⟨rfl,hg1⟩;(try (with_reducible replace hg1:=Gr.of_drew hg1));have hsz1:=hg1.size;(try simp at hsz1);skip;obtain ⟨hc1,hf1⟩:=hg1.cells;have HG1:=Lib.hid hg1;clear hg1)
 go_wp2
 go_ret
 exact⟨by simp,HG1.out⟩
theorem tells_degree (xs:List (Value×List T)) (w:World) (hx:∀x∈xs,PL w 0 x.1 x.2∧(∀t∈x.2,t.ok)∧tot x.2≤100000000000):TellsIn pvV 161 #[] (fun x=>decide (8<degL (gat x.2))) xs w:=
 ⟨enters_of Tryz.func161 (by kernel_rfl) rfl,fun W hW x hm=>by
  obtain ⟨h1,h2,h3⟩:=hx x hm
  rw [Array.append_empty]
  exact degrees1_raw x.1 W (po_Degree x.2 x.1 W (h1.gr hW) h2 h3)⟩
set_option maxRecDepth 20000 in
set_option maxHeartbeats 8000000 in
theorem pr_degrees (xs:List (Value×List T)) (v:Value) (B:Nat) (t:TypeId) (w:World) (hS:SR pvC 1 t w B v xs) (hx:∀x∈xs,PL w 0 x.1 x.2∧(∀t∈x.2,t.ok)∧tot x.2≤100000000000) (hd:∀x∈xs,degL (gat x.2)≤8):Calls Tryz.prog 137 #[v] w (Ret w (.int .i64 0)):=by
 have hC:=Lib.hid (contains_Poly xs v B t w hS (tells_degree xs w hx))
 have e:(xs.any fun x=>decide (8<degL (gat x.2)))=false:=by
  rw [List.any_eq_false]
  intro x hm
  have:=hd x hm
  simp;omega
 rw [e]at hC
 clear hS hx hd e
 go_enter Tryz.func137,Tryz.ntmps137
 go_wp2_with fail
 (refine(hC.out).mono ?_;rintro e w1 ⟨rfl,hg1⟩;(try (with_reducible replace hg1:=Gr.of_drew hg1));have hsz1:=hg1.size;(try simp at hsz1);skip;obtain ⟨hc1,hf1⟩:=hg1.cells;have HG1:=Lib.hid hg1;clear hg1)
 go_wp2
 go_ret
 exact⟨rfl,HG1.out⟩
set_option maxRecDepth 20000 in
set_option maxHeartbeats 8000000 in
theorem pr_source (p:Prb) (l:List T) (w:World) (hS:PL w 0 p.f l) (hok:∀t∈l,t.ok) (ht:tot l≤100000000000) (hd:degL (gat l)≤8):Calls Tryz.prog 102 #[prV p] w (Ret w (.int .i64 0)):=by
 have hC:=Lib.hid (fun W v B (hv:SR pvC 1 41 W B v [(p.f,l)]) (hW:Gr w.heap.size w W)=>pr_degrees [(p.f,l)] v B 41 W hv (by
  intro x hx;simp at hx;subst hx;exact⟨hS.gr hW,hok,ht⟩) (by intro x hx;simp at hx;subst hx;exact hd))
 obtain ⟨fa,fc,hf⟩:=hS.at
 obtain ⟨vp,vt,vs,order,a,b,c,q,f,gv⟩:=p
 simp only at hf hC ⊢
 subst hf
 clear hS hok ht hd
 go_enter Tryz.func102,Tryz.ntmps102
 go_wp2_with fail
 (refine(hC.out _ _ (w.heap.size+1) (SL.sr (SL.new' (enc:=pvC) (l:= [(.slice fa l.length fc,l)]) (fun _=>rfl) _ rfl (by simp) (Nat.le_refl _) (by simp [maxLen]) rfl)) (by(with_reducible (repeat' (first|exact Gr.refl _ _|refine Gr.drew ?_|refine Gr.setCell ?_ ?_ _|refine Gr.alloc ?_ ?_ _|omega|(simp;done)|(simp;omega)))))).mono ?_;rintro e w1 ⟨rfl,hg1⟩;(try (with_reducible replace hg1:=Gr.of_drew hg1));have hsz1:=hg1.size;(try simp at hsz1);have hz1_0:w.heap.size<w1.heap.size:=(by omega);obtain ⟨hc1,hf1⟩:=hg1.cells;have HG1:=Lib.hid hg1;clear hg1)
 go_wp2
 go_ret
 exact⟨rfl,by(with_reducible (repeat' (first|exact Gr.refl _ _|refine Gr.drew ?_|refine Gr.setCell ?_ ?_ _|refine Gr.alloc ?_ ?_ _|refine Gr.trans ?_ (Gr.mono HG1.out ?_)|omega|(simp;done)|(simp;omega))))⟩
set_option maxRecDepth 20000 in
set_option maxHeartbeats 8000000 in
theorem numbers_raw {s:Int} (p:Prb) (ho:p.order=1∨p.order=2) (hs:¬s<0) (hD:∀w,Calls Tryz.prog 136 #[k3V p.a p.b p.c] w (Ret w (.bool true))) (hS:∀w,Calls Tryz.prog 55 #[fracV p.q] w (Ret w (.int .i64 s))) (w:World):Calls Tryz.prog 101 #[prV p] w (Ret w (.int .i64 0)):=by
 obtain ⟨vp,vt,vs,order,a,b,c,q,f,gv⟩:=p
 simp only at ho hD hS ⊢
 have hD:=Lib.hid hD
 have hS:=Lib.hid hS
 rcases ho with rfl|rfl
 all_goals
  go_enter Tryz.func101,Tryz.ntmps101
  go_wp2_with fail
  (refine(hD.out _).mono ?_;rintro e w1 ⟨rfl,hg1⟩;(try (with_reducible replace hg1:=Gr.of_drew hg1));have hsz1:=hg1.size;(try simp at hsz1);have hz1_0:w.heap.size<w1.heap.size:=(by omega);obtain ⟨hc1,hf1⟩:=hg1.cells;have HG1:=Lib.hid hg1;clear hg1)
  go_wp2_with fail
  (refine(hS.out _).mono ?_;rintro e w2 ⟨rfl,hg2⟩;(try (with_reducible replace hg2:=Gr.of_drew hg2));have hsz2:=hg2.size;(try simp at hsz2);have hz2_0:w.heap.size<w2.heap.size:=(by omega);obtain ⟨hc2,hf2⟩:=hg2.cells;have HG2:=Lib.hid hg2;clear hg2)
  go_wp2
  go_ret
  exact⟨rfl,by(with_reducible (repeat' (first|exact Gr.refl _ _|refine Gr.drew ?_|refine Gr.setCell ?_ ?_ _|refine Gr.alloc ?_ ?_ _|refine Gr.trans ?_ (Gr.mono HG2.out ?_)|refine Gr.trans ?_ (Gr.mono HG1.out ?_)|omega|(simp;done)|(simp;omega))))⟩
theorem pr_numbers (p:Prb) (ho:p.order=1∨p.order=2) (hd:defQ p.a p.b p.c=true) (hq:0≤p.q.num) (ha:hw p.a≤50000000000) (hb:hw p.b≤50000000000) (hc:hw p.c≤50000000000) (w:World):Calls Tryz.prog 101 #[prV p] w (Ret w (.int .i64 0)):=
 numbers_raw (s:=sgnI p.q.num) p ho (by unfold sgnI;rw [if_neg (by omega)];split<;>omega) (fun w=>hd ▸ pr_Definite p.a p.b p.c w ha hb hc) (fun w=>fr_Sign p.q w) w
set_option maxRecDepth 20000 in
set_option maxHeartbeats 8000000 in
theorem find1_raw (x:Gv) (n:Nat) (g:Nat) (w:World) (hV:VB w g [.int .i64 (n:Int)]):Calls Tryz.prog 174 #[gvV x,.pointer (some ⟨g,0,none⟩)] w (Ret w (.bool (decide (x.mark=n)))):=by
 have hc:=hV.c 0 _ rfl
 have hg:=hV.lt
 clear hV
 obtain ⟨mark,fixed,u,g0,g1⟩:=x
 simp only
 go_enter Tryz.func174,Tryz.ntmps174
 go_wp2
 go_ret
 refine⟨?_,by(with_reducible (repeat' (first|exact Gr.refl _ _|refine Gr.drew ?_|refine Gr.setCell ?_ ?_ _|refine Gr.alloc ?_ ?_ _|omega|(simp;done)|(simp;omega))))⟩
 by_cases e:mark=n
 ·subst e;simp
 ·rw [decide_eq_false e];simp;omega
set_option maxRecDepth 20000 in
set_option maxHeartbeats 8000000 in
theorem msCheck_raw (m:Msh) (vp vt vs:Value) (w:World) (hM:MS w 0 vp vt vs m) (hp:m.pts.length≤4096) (ht:m.tris.length≤8192) (hs:m.sides.length≤24576)
  (h1:∀W,MS W 0 vp vt vs m→Calls Tryz.prog 138 #[.agg #[vp,vt,vs]] W (Ret W (.bool true))) (h2:∀W,MS W 0 vp vt vs m→Calls Tryz.prog 139 #[.agg #[vp,vt,vs]] W (Ret W (.bool true)))
  (h3:∀W,MS W 0 vp vt vs m→Calls Tryz.prog 140 #[.agg #[vp,vt,vs]] W (Ret W (.bool true))) (h4:∀W,MS W 0 vp vt vs m→Calls Tryz.prog 141 #[.agg #[vp,vt,vs]] W (Ret W (.bool true))):
  Calls Tryz.prog 105 #[.agg #[vp,vt,vs]] w (Ret w (.int .i64 0)):=by
 have HM:=Lib.hid hM
 have h1:=Lib.hid h1
 have h2:=Lib.hid h2
 have h3:=Lib.hid h3
 have h4:=Lib.hid h4
 obtain ⟨a0,b0,rfl⟩:=hM.1.at
 obtain ⟨a1,b1,rfl⟩:=hM.2.1.at
 obtain ⟨a2,b2,rfl⟩:=hM.2.2.at
 have q1:¬((4096:Int)<(m.pts.length:Int)):=by omega
 have q2:¬((8192:Int)<(m.tris.length:Int)):=by omega
 have q3:¬((24576:Int)<(m.sides.length:Int)):=by omega
 clear hM hp ht hs
 go_enter Tryz.func105,Tryz.ntmps105
 go_wp2_with fail
 (refine(h1.out _ (HM.out.gr (by(with_reducible (repeat' (first|exact Gr.refl _ _|refine Gr.drew ?_|refine Gr.setCell ?_ ?_ _|refine Gr.alloc ?_ ?_ _|omega|(simp;done)|(simp;omega))))))).mono ?_;rintro e w1 ⟨rfl,hg1⟩;(try (with_reducible replace hg1:=Gr.of_drew hg1));have hsz1:=hg1.size;(try simp at hsz1);have hz1_0:w.heap.size<w1.heap.size:=(by omega);obtain ⟨hc1,hf1⟩:=hg1.cells;have HG1:=Lib.hid hg1;clear hg1)
 go_wp2_with fail
 (refine(h2.out _ (HM.out.gr (by(with_reducible (repeat' (first|exact Gr.refl _ _|refine Gr.drew ?_|refine Gr.setCell ?_ ?_ _|refine Gr.alloc ?_ ?_ _|refine Gr.trans ?_ (Gr.mono HG1.out ?_)|omega|(simp;done)|(simp;omega))))))).mono ?_;rintro e w2 ⟨rfl,hg2⟩;(try (with_reducible replace hg2:=Gr.of_drew hg2));have hsz2:=hg2.size;(try simp at hsz2);have hz2_0:w.heap.size<w2.heap.size:=(by omega);obtain ⟨hc2,hf2⟩:=hg2.cells;have HG2:=Lib.hid hg2;clear hg2)
 go_wp2_with fail
 (refine(h3.out _ (HM.out.gr (by(with_reducible (repeat' (first|exact Gr.refl _ _|refine Gr.drew ?_|refine Gr.setCell ?_ ?_ _|refine Gr.alloc ?_ ?_ _|refine Gr.trans ?_ (Gr.mono HG2.out ?_)|refine Gr.trans ?_ (Gr.mono HG1.out ?_)|omega|(simp;done)|(simp;omega))))))).mono ?_;rintro e w3 ⟨rfl,hg3⟩;(try (with_reducible replace hg3:=Gr.of_drew hg3));have hsz3:=hg3.size;(try simp at hsz3);have hz3_0:w.heap.size<w3.heap.size:=(by omega);obtain ⟨hc3,hf3⟩:=hg3.cells;have HG3:=Lib.hid hg3;clear hg3)
 go_wp2_with fail
 (refine(h4.out _ (HM.out.gr (by(with_reducible (repeat' (first|exact Gr.refl _ _|refine Gr.drew ?_|refine Gr.setCell ?_ ?_ _|refine Gr.alloc ?_ ?_ _|refine Gr.trans ?_ (Gr.mono HG3.out ?_)|refine Gr.trans ?_ (Gr.mono HG2.out ?_)|refine Gr.trans ?_ (Gr.mono HG1.out ?_)|omega|(simp;done)|(simp;omega))))))).mono ?_;rintro e w4 ⟨rfl,hg4⟩;(try (with_reducible replace hg4:=Gr.of_drew hg4));have hsz4:=hg4.size;(try simp at hsz4);have hz4_0:w.heap.size<w4.heap.size:=(by omega);obtain ⟨hc4,hf4⟩:=hg4.cells;have HG4:=Lib.hid hg4;clear hg4)
 go_wp2
 go_ret
 exact⟨rfl,by(with_reducible (repeat' (first|exact Gr.refl _ _|refine Gr.drew ?_|refine Gr.setCell ?_ ?_ _|refine Gr.alloc ?_ ?_ _|refine Gr.trans ?_ (Gr.mono HG4.out ?_)|refine Gr.trans ?_ (Gr.mono HG3.out ?_)|refine Gr.trans ?_ (Gr.mono HG2.out ?_)|refine Gr.trans ?_ (Gr.mono HG1.out ?_)|omega|(simp;done)|(simp;omega))))⟩
end Go.Proofs.YtmelogdhllhjiaaGreat
