/-
  Part 33 of the proof: OnceB Once SqC.
-/
import Derived.Test.YtmelogdhllhjiaaGreatJ17
import Derived.Test.YtmelogdhllhjiaaGreatJ20
import Derived.Test.YtmelogdhllhjiaaGreatJ25
import Derived.Test.YtmelogdhllhjiaaGreatJ31
import Derived.Test.YtmelogdhllhjiaaGreatJ32
import Derived.Test.YtmelogdhllhjiaaGreatJ23
import Derived.Test.YtmelogdhllhjiaaGreatJ24
import Derived.Test.YtmelogdhllhjiaaGreatJ28
set_option linter.unusedSimpArgs false
set_option linter.unusedVariables false
namespace Go.Proofs.YtmelogdhllhjiaaGreat
open Go.RowKit Gus
abbrev boC (b:Bool):List Value:= [.bool b]
theorem boC_len (x:Bool):(boC x).length=1:=rfl
theorem boC_one (x:Bool):∀v∈boC x,v.oneCell'=true:=by simp [Value.oneCell']
theorem RC.fBo {w:World} {g:Nat} {l:List Bool} (h:RC boC 1 w g l) {j:Nat} (hj:j<l.length) {y:Bool} (hy:l[j]=y):w.cell? ⟨g,j,none⟩=some (.bool y):=by
 subst hy
 have:=h j hj 0 _ rfl
 simpa using this
set_option maxRecDepth 20000 in
set_option maxHeartbeats 4000000 in
theorem index_Bo (l:List Bool) (v:Value) (B:Nat) (t:TypeId) (w:World) (hS:SR boC 1 t w B v l):
  Calls Tryz.prog 175 #[v,.bool false] w (Ret w (.int .i64 (idxP (fun x=> !x) l))):=by
 obtain ⟨a,cap,rfl⟩:=hS.at
 have hl:=hS.len
 have HS:=Lib.hid hS
 have hl2:(l.length:Int)≤9223372036854775807:=by simp only [maxLen]at hl;omega
 clear hS hl
 go_enter Tryz.func175,Tryz.ntmps175
 go_wp2
 go_loopw [8] (fun s wr=> ∃j:Nat,j≤l.length∧s= .int .i64 j∧Hid (∀i (hi:i<l.length),i<j→l[i]=true)∧Gr w.heap.size w wr) (fun s _=>l.length - (intOf s).toNat)
 case atStart=>exact⟨0,Nat.zero_le _,rfl,fun i _ h=>by omega,Gr.refl _ _⟩
 case round=>
  obtain ⟨j,hj,rfl,hf,hgr⟩:=hrel
  by_cases hlt:j<l.length
  ·obtain ⟨y,hy⟩:∃y,l[j]=y:=⟨_,rfl⟩
   obtain ⟨g,cap',e1,_,_,_,hsh,hR⟩:=(HS.out.gr hgr).block (by intro e;rw [e]at hlt;simp at hlt)
   injection e1 with e1 _ e2
   subst e1 e2
   have v0:=hR.fBo hlt hy
   have HY:=Lib.hid hy
   have HG:=Lib.hid hgr
   clear hgr hy hR hsh
   cases y with
   | false=>
    go_wp2
    go_ret
    have e:idxP (fun x=> !x) l=j:=by
     unfold idxP
     rw [List.findIdx?_eq_some_iff_getElem.2 ⟨hlt,by rw [HY.out];rfl,fun i hi=>by rw [hf.out i (by omega) hi];simp⟩]
    exact⟨by rw [e];rfl,HG.out⟩
   | true=>
    go_wp2
    go_roundw
    case rel=>exact⟨j+1,by omega,by go_num,Lib.hid fun i hi h=>by
     rcases Nat.lt_succ_iff_lt_or_eq.1 h with h|h
     ·exact hf.out i hi h
     ·subst h;exact HY.out,HG.out⟩
    case measure=>simp [intOf];omega
  ·obtain rfl:j=l.length:=by omega
   have HG:=Lib.hid hgr
   clear hgr
   go_wp2
   go_ret
   have e:idxP (fun x=> !x) l= -1:=by
    unfold idxP
    rw [List.findIdx?_eq_none_iff.2 fun x hx=>by
     obtain ⟨i,hi,rfl⟩:=List.getElem_of_mem hx
     simp [hf.out i hi hi]]
   exact⟨by rw [e];rfl,HG.out⟩
set_option maxRecDepth 20000 in
set_option maxHeartbeats 4000000 in
theorem contains_Bo (l:List Bool) (v:Value) (B:Nat) (t:TypeId) (w:World) (hS:SR boC 1 t w B v l):
  Calls Tryz.prog 146 #[v,.bool false] w (Ret w (.bool (l.any fun x=> !x))):=by
 have hI:=Lib.hid (index_Bo l v B t w hS)
 have HE:=Lib.hid (idxP_nonneg (fun x=> !x) l)
 clear hS
 generalize idxP (fun x=> !x) l=r at *
 go_enter Tryz.func146,Tryz.ntmps146
 go_wp2_with fail
 (refine(hI.out).mono ?_;rintro e w1 ⟨rfl,hg1⟩;(try (with_reducible replace hg1:=Gr.of_drew hg1));have hsz1:=hg1.size;(try simp at hsz1);skip;obtain ⟨hc1,hf1⟩:=hg1.cells;have HG1:=Lib.hid hg1;clear hg1)
 go_wp2
 go_ret
 exact⟨by rw [←HE.out];simp,HG1.out⟩
end Go.Proofs.YtmelogdhllhjiaaGreat
namespace Go.Proofs.YtmelogdhllhjiaaGreat
open Go.RowKit Gus
theorem Shx.set {w:World} {g:Nat} {t:TypeId} (h:Shx w g t) (p:Addr) (v:Value):Shx (w.setCell p v) g t:=by obtain ⟨N,h⟩:=h;exact⟨N,h.set p v⟩
theorem info_bBool:(Tryz.prog.info? 4).map (fun i=>(i.zero,i.size,i.bytes))=some (some (.bool false),1,1):=by kernel_rfl
theorem Shx.alloc {w:World} {g:Nat} {t:TypeId} (h:Shx w g t) (o:Obj):Shx (w.alloc o) g t:=h.gr (B:=w.heap.size) ((Gr.refl _ _).alloc (Nat.le_refl _) o) h.lt
theorem Shx.drew {w:World} {g:Nat} {t:TypeId} (h:Shx w g t):Shx w.drew g t:=h
def usedC:Nat→List Bool
 | 0=> [false,false,false,false]
 | 1=> [true,true,true,false]
 | _=> [true,true,true,true]
set_option maxRecDepth 20000 in
set_option maxHeartbeats 8000000 in
theorem ms_once (rs:List Tri) (vp vt vs:Value) (w:World) (hM:MS w 0 vp vt vs ⟨sqP,sqT,rs⟩):Calls Tryz.prog 139 #[.agg #[vp,vt,vs]] w (Ret w (.bool true)):=by
 have HM:=Lib.hid hM
 obtain ⟨hP,hT,hS⟩:=hM
 obtain ⟨as_,cs,rfl⟩:=hS.at
 obtain ⟨gp,cp,rfl,_,hcp,_,hshp,hRp⟩:=hP.block (by simp [sqP])
 obtain ⟨gt,ct,rfl,_,hct,_,hsht,hRt⟩:=hT.block (by simp [sqT])
 have hgp:=hshp.lt
 have hgt:=hsht.lt
 have HR:=Lib.hid hRt
 have HP:=Lib.hid (show SR pC 10 94 w 0 (.slice (some ⟨gp,0,none⟩) 4 cp) sqP from hP)
 clear hP hT hS hshp hsht hRp hRt
 simp only [sqP,sqT,List.length_cons,List.length_nil,Nat.zero_add,Nat.reduceAdd]at hcp hct ⊢
 obtain ⟨i0,hi,hz0,hz1,hz2⟩:=info_parts info_bBool
 have hmk:∀W:World,(Instr.makeSlice 201 (.int .i64 4) (.int .i64 4)).run Tryz.prog W= .ok (.slice (some ⟨W.heap.size,0,none⟩) 4 4) (W.alloc (.cells #[.bool false,.bool false,.bool false,.bool false] 4)):=fun W=>by
  have h:=run_make_rowN 201 4 i0 _ Tryz.underlying201 hi hz0 .i64 .i64 4 4 (by omega) (by rw [hz2];omega) (by omega) W
  rw [hz1,show madeCells (Value.bool false).cells (4*1)= #[.bool false,.bool false,.bool false,.bool false]from by kernel_rfl]at h
  exact h
 clear hi hz0 hz1 hz2
 go_enter Tryz.func139,Tryz.ntmps139
 go_wp2
 have HV0:=Lib.hid (show VB ((w.alloc (.cells #[.slice (some ⟨gp,0,none⟩) 4 cp,.slice (some ⟨gt,0,none⟩) 2 ct,.slice as_ rs.length cs] 63)).alloc (.cells #[.bool false,.bool false,.bool false,.bool false] 4)) w.heap.size [.slice (some ⟨gp,0,none⟩) 4 cp,.slice (some ⟨gt,0,none⟩) 2 ct,.slice as_ rs.length cs]from by(with_reducible (repeat' (first|(refine VB.new' ?_;exact(by first|omega|(simp;done)|(simp;omega)))|apply VB.put2|apply VB.put3|apply VB.put5|refine VB.drew ?_|refine VB.far ?_ ?_ _|refine VB.alloc ?_ _|omega|(simp;done)|(simp;omega)))))
 have HU0:=Lib.hid (show VB ((w.alloc (.cells #[.slice (some ⟨gp,0,none⟩) 4 cp,.slice (some ⟨gt,0,none⟩) 2 ct,.slice as_ rs.length cs] 63)).alloc (.cells #[.bool false,.bool false,.bool false,.bool false] 4)) (w.heap.size+1) [.bool false,.bool false,.bool false,.bool false]from by(with_reducible (repeat' (first|(refine VB.new' ?_;exact(by first|omega|(simp;done)|(simp;omega)))|apply VB.put2|apply VB.put3|apply VB.put5|refine VB.drew ?_|refine VB.far ?_ ?_ _|refine VB.alloc ?_ _|omega|(simp;done)|(simp;omega)))))
 have HX0:=Lib.hid (show Shx ((w.alloc (.cells #[.slice (some ⟨gp,0,none⟩) 4 cp,.slice (some ⟨gt,0,none⟩) 2 ct,.slice as_ rs.length cs] 63)).alloc (.cells #[.bool false,.bool false,.bool false,.bool false] 4)) (w.heap.size+1) 4 from by
  have h:=Shx.new (w.alloc (.cells #[.slice (some ⟨gp,0,none⟩) 4 cp,.slice (some ⟨gt,0,none⟩) 2 ct,.slice as_ rs.length cs] 63)) #[.bool false,.bool false,.bool false,.bool false] 4
  simpa using h)
 have HG0:=Lib.hid (show Gr w.heap.size w ((w.alloc (.cells #[.slice (some ⟨gp,0,none⟩) 4 cp,.slice (some ⟨gt,0,none⟩) 2 ct,.slice as_ rs.length cs] 63)).alloc (.cells #[.bool false,.bool false,.bool false,.bool false] 4))from by(with_reducible (repeat' (first|exact Gr.refl _ _|refine Gr.drew ?_|refine Gr.setCell ?_ ?_ _|refine Gr.alloc ?_ ?_ _|omega|(simp;done)|(simp;omega)))))
 generalize ((w.alloc (.cells #[.slice (some ⟨gp,0,none⟩) 4 cp,.slice (some ⟨gt,0,none⟩) 2 ct,.slice as_ rs.length cs] 63)).alloc (.cells #[.bool false,.bool false,.bool false,.bool false] 4))=w0 at *
 go_loopw [14] (fun s wr=> ∃n:Nat,n≤2∧s= .int .i64 n∧Hid (VB wr w.heap.size [.slice (some ⟨gp,0,none⟩) 4 cp,.slice (some ⟨gt,0,none⟩) 2 ct,.slice as_ rs.length cs])∧Hid (VB wr (w.heap.size+1) ((usedC n).map Value.bool))∧Hid (Shx wr (w.heap.size+1) 4)∧Hid (Gr w.heap.size w wr)) (fun s _=>2 - (intOf s).toNat)
 case atStart=>exact⟨0,by omega,rfl,HV0,HU0,HX0,HG0⟩
 case round=>
  clear HV0 HU0 HX0 HG0
  obtain ⟨n,hn,rfl,HV,HU,HX,HG⟩:=hrel
  have hszr:=HG.out.size
  have g0:=HV.out.lt
  have g1:=HU.out.lt
  obtain ⟨b0,b1,b2,_⟩:=HV.out.three
  rcases(show n=0∨n=1∨n=2 by omega)with rfl|rfl|rfl
  ·obtain ⟨v0,v1,v2⟩:=(HR.out.gr HG.out hgt).fTri (j:=0) (by simp [sqT]) rfl
   simp [sqT]at v0 v1 v2
   simp only [show((0:Nat):Int)=0 from rfl]
   have x0:=(show VB wr (w.heap.size+1) [.bool false,.bool false,.bool false,.bool false]from HU.out).c 0 _ rfl
   have x1:=(show VB wr (w.heap.size+1) [.bool false,.bool false,.bool false,.bool false]from HU.out).c 1 _ rfl
   have x2:=(show VB wr (w.heap.size+1) [.bool false,.bool false,.bool false,.bool false]from HU.out).c 2 _ rfl
   have x3:=(show VB wr (w.heap.size+1) [.bool false,.bool false,.bool false,.bool false]from HU.out).c 3 _ rfl
   have y0:=(show VB wr (w.heap.size+1) [.bool false,.bool false,.bool false,.bool false]from HU.out).f 0 (by simp)
   have y1:=(show VB wr (w.heap.size+1) [.bool false,.bool false,.bool false,.bool false]from HU.out).f 1 (by simp)
   have y2:=(show VB wr (w.heap.size+1) [.bool false,.bool false,.bool false,.bool false]from HU.out).f 2 (by simp)
   have y3:=(show VB wr (w.heap.size+1) [.bool false,.bool false,.bool false,.bool false]from HU.out).f 3 (by simp)
   have hne:¬wr.heap.size=w.heap.size+1:=by omega
   have hne2:¬w.heap.size+1=wr.heap.size:=by omega
   go_wp2
   refine wp_region_held_drew (S:=(fun w'=>w'.cell? ⟨wr.heap.size,0,none⟩=some (.int .i64 0)∧w'.cell? ⟨wr.heap.size,1,none⟩=some (.int .i64 1)∧w'.cell? ⟨wr.heap.size,2,none⟩=some (.int .i64 2))) (by kernel_rfl) ?_ (fun hHeld=>?_)
   ·simp [go_sem, *]
   refine tk 0 (some 18) (.slice (some ⟨w.heap.size+1,0,none⟩) 4 4) ?_
   try simp only [pS]
   refine tk 1 (some 19) (.pointer (some ⟨wr.heap.size,0,none⟩)) ?_
   try simp only [pS]
   refine tk 2 (some 20) (.int .i64 0) ?_
   try simp only [pS]
   refine tk 3 (some 21) (.slice (some ⟨w.heap.size+1,0,none⟩) 4 4) ?_
   try simp only [pS]
   refine tk 4 (some 22) (.pointer (some ⟨wr.heap.size,1,none⟩)) ?_
   try simp only [pS]
   refine tk 5 (some 23) (.int .i64 1) ?_
   try simp only [pS]
   refine tk 6 (some 24) (.slice (some ⟨w.heap.size+1,0,none⟩) 4 4) ?_
   try simp only [pS]
   refine tk 7 (some 25) (.pointer (some ⟨wr.heap.size,2,none⟩)) ?_
   try simp only [pS]
   refine tk 8 (some 26) (.int .i64 2) ?_
   try simp only [pS]
   refine tk 9 (some 27) (.pointer (some ⟨w.heap.size+1,0,none⟩)) ?_
   try simp only [pS]
   refine rd 10 (fun K hK=>?_)
   go_simp
   (try dsimp only)
   refine hK.out _ _ ?_ (fun hQ1=>?_)
   ·(first|exact trivial|((try dsimp only);simp [go_sem, *]))
   clear hK K hHeld
   try simp only [pS]
   refine tk 11 (some 28) (.pointer (some ⟨w.heap.size+1,1,none⟩)) ?_
   try simp only [pS]
   refine rd 12 (fun K hK=>?_)
   go_simp
   (try dsimp only)
   refine hK.out _ _ ?_ (fun hQ2=>?_)
   ·(first|exact trivial|((try dsimp only);simp [go_sem, *]))
   clear hK K hQ1
   try simp only [pS]
   refine tk 13 (some 29) (.pointer (some ⟨w.heap.size+1,2,none⟩)) ?_
   try simp only [pS]
   refine rd 14 (fun K hK=>?_)
   go_simp
   (try dsimp only)
   refine hK.out _ _ ?_ (fun hQ3=>?_)
   ·(first|exact trivial|((try dsimp only);simp [go_sem, *]))
   clear hK K hQ2
   try simp only [pS]
   refine wpAnyH_done (by kernel_rfl) ?_ _
   go_wp2
   go_roundw
   case rel=>exact⟨1,by omega,by go_num,Lib.hid (by(with_reducible (repeat' (first|(refine VB.new' ?_;exact(by first|omega|(simp;done)|(simp;omega)))|apply VB.put2|apply VB.put3|apply VB.put5|refine VB.drew ?_|refine VB.far ?_ ?_ _|refine VB.alloc ?_ _|exact HV.out|omega|(simp;done)|(simp;omega))))),Lib.hid (VB.drew (VB.alloc (VB.part 2 [.bool true] (VB.part 1 [.bool true] (VB.part 0 [.bool true] (show VB wr (w.heap.size+1) [.bool false,.bool false,.bool false,.bool false]from HU.out) rfl (by simp)) rfl (by simp)) rfl (by simp)) _)),Lib.hid (((((HX.out.set _ _).set _ _).set _ _).alloc _).drew),Lib.hid (by(with_reducible (repeat' (first|exact Gr.refl _ _|refine Gr.drew ?_|refine Gr.setCell ?_ ?_ _|refine Gr.alloc ?_ ?_ _|refine Gr.trans ?_ (Gr.mono HG.out ?_)|omega|(simp;done)|(simp;omega)))))⟩
   case measure=>simp [intOf]
  ·obtain ⟨v0,v1,v2⟩:=(HR.out.gr HG.out hgt).fTri (j:=1) (by simp [sqT]) rfl
   simp [sqT]at v0 v1 v2
   simp only [show((1:Nat):Int)=1 from rfl]
   have x0:=(show VB wr (w.heap.size+1) [.bool true,.bool true,.bool true,.bool false]from HU.out).c 0 _ rfl
   have x1:=(show VB wr (w.heap.size+1) [.bool true,.bool true,.bool true,.bool false]from HU.out).c 1 _ rfl
   have x2:=(show VB wr (w.heap.size+1) [.bool true,.bool true,.bool true,.bool false]from HU.out).c 2 _ rfl
   have x3:=(show VB wr (w.heap.size+1) [.bool true,.bool true,.bool true,.bool false]from HU.out).c 3 _ rfl
   have y0:=(show VB wr (w.heap.size+1) [.bool true,.bool true,.bool true,.bool false]from HU.out).f 0 (by simp)
   have y1:=(show VB wr (w.heap.size+1) [.bool true,.bool true,.bool true,.bool false]from HU.out).f 1 (by simp)
   have y2:=(show VB wr (w.heap.size+1) [.bool true,.bool true,.bool true,.bool false]from HU.out).f 2 (by simp)
   have y3:=(show VB wr (w.heap.size+1) [.bool true,.bool true,.bool true,.bool false]from HU.out).f 3 (by simp)
   have hne:¬wr.heap.size=w.heap.size+1:=by omega
   have hne2:¬w.heap.size+1=wr.heap.size:=by omega
   go_wp2
   refine wp_region_held_drew (S:=(fun w'=>w'.cell? ⟨wr.heap.size,0,none⟩=some (.int .i64 0)∧w'.cell? ⟨wr.heap.size,1,none⟩=some (.int .i64 2)∧w'.cell? ⟨wr.heap.size,2,none⟩=some (.int .i64 3))) (by kernel_rfl) ?_ (fun hHeld=>?_)
   ·simp [go_sem, *]
   refine tk 0 (some 18) (.slice (some ⟨w.heap.size+1,0,none⟩) 4 4) ?_
   try simp only [pS]
   refine tk 1 (some 19) (.pointer (some ⟨wr.heap.size,0,none⟩)) ?_
   try simp only [pS]
   refine tk 2 (some 20) (.int .i64 0) ?_
   try simp only [pS]
   refine tk 3 (some 21) (.slice (some ⟨w.heap.size+1,0,none⟩) 4 4) ?_
   try simp only [pS]
   refine tk 4 (some 22) (.pointer (some ⟨wr.heap.size,1,none⟩)) ?_
   try simp only [pS]
   refine tk 5 (some 23) (.int .i64 2) ?_
   try simp only [pS]
   refine tk 6 (some 24) (.slice (some ⟨w.heap.size+1,0,none⟩) 4 4) ?_
   try simp only [pS]
   refine tk 7 (some 25) (.pointer (some ⟨wr.heap.size,2,none⟩)) ?_
   try simp only [pS]
   refine tk 8 (some 26) (.int .i64 3) ?_
   try simp only [pS]
   refine tk 9 (some 27) (.pointer (some ⟨w.heap.size+1,0,none⟩)) ?_
   try simp only [pS]
   refine rd 10 (fun K hK=>?_)
   go_simp
   (try dsimp only)
   refine hK.out _ _ ?_ (fun hQ1=>?_)
   ·(first|exact trivial|((try dsimp only);simp [go_sem, *]))
   clear hK K hHeld
   try simp only [pS]
   refine tk 11 (some 28) (.pointer (some ⟨w.heap.size+1,2,none⟩)) ?_
   try simp only [pS]
   refine rd 12 (fun K hK=>?_)
   go_simp
   (try dsimp only)
   refine hK.out _ _ ?_ (fun hQ2=>?_)
   ·(first|exact trivial|((try dsimp only);simp [go_sem, *]))
   clear hK K hQ1
   try simp only [pS]
   refine tk 13 (some 29) (.pointer (some ⟨w.heap.size+1,3,none⟩)) ?_
   try simp only [pS]
   refine rd 14 (fun K hK=>?_)
   go_simp
   (try dsimp only)
   refine hK.out _ _ ?_ (fun hQ3=>?_)
   ·(first|exact trivial|((try dsimp only);simp [go_sem, *]))
   clear hK K hQ2
   try simp only [pS]
   refine wpAnyH_done (by kernel_rfl) ?_ _
   go_wp2
   go_roundw
   case rel=>exact⟨2,by omega,by go_num,Lib.hid (by(with_reducible (repeat' (first|(refine VB.new' ?_;exact(by first|omega|(simp;done)|(simp;omega)))|apply VB.put2|apply VB.put3|apply VB.put5|refine VB.drew ?_|refine VB.far ?_ ?_ _|refine VB.alloc ?_ _|exact HV.out|omega|(simp;done)|(simp;omega))))),Lib.hid (VB.drew (VB.alloc (VB.part 3 [.bool true] (VB.part 2 [.bool true] (VB.part 0 [.bool true] (show VB wr (w.heap.size+1) [.bool true,.bool true,.bool true,.bool false]from HU.out) rfl (by simp)) rfl (by simp)) rfl (by simp)) _)),Lib.hid (((((HX.out.set _ _).set _ _).set _ _).alloc _).drew),Lib.hid (by(with_reducible (repeat' (first|exact Gr.refl _ _|refine Gr.drew ?_|refine Gr.setCell ?_ ?_ _|refine Gr.alloc ?_ ?_ _|refine Gr.trans ?_ (Gr.mono HG.out ?_)|omega|(simp;done)|(simp;omega)))))⟩
   case measure=>simp [intOf]
  ·simp only [show((2:Nat):Int)=2 from rfl]
   have HSB:=Lib.hid (show SR boC 1 4 wr 0 (.slice (some ⟨w.heap.size+1,0,none⟩) 4 4) [true,true,true,true]from .inr ⟨w.heap.size+1,4,rfl,Nat.zero_le _,Nat.le_refl _,by simp [maxLen],HX.out,RC.of_flat boC_len fun i u hu=>HU.out.c i u hu⟩)
   go_wp2_with fail
   (refine(contains_Bo [true,true,true,true] _ 0 _ _ HSB.out).mono ?_;rintro e w1 ⟨rfl,hg1⟩;(try (with_reducible replace hg1:=Gr.of_drew hg1));have hsz1:=hg1.size;(try simp at hsz1);have hy1_0:w.heap.size<w1.heap.size:=(by omega);obtain ⟨hc1,hf1⟩:=hg1.cells;have HG1:=Lib.hid hg1;clear hg1)
   have HV1:=Lib.hid (HV.out.gr HG1.out g0)
   obtain ⟨b0,b1,b2,_⟩:=HV1.out.three
   go_wp2_with fail
   refine(clone_Pt sqP _ 0 _ (HP.out.gr (by(with_reducible (repeat' (first|exact Gr.refl _ _|refine Gr.drew ?_|refine Gr.setCell ?_ ?_ _|refine Gr.alloc ?_ ?_ _|refine Gr.trans ?_ (Gr.mono HG1.out ?_)|refine Gr.trans ?_ (Gr.mono HG.out ?_)|omega|(simp;done)|(simp;omega)))))) (by simp [sqP])).mono ?_
   rintro e w2 ⟨v2,rfl,hS2,hg2⟩
   obtain ⟨g2,c2,rfl,hb2,_,_,_,_⟩:=hS2.block (by simp [sqP])
   have HG2:=Lib.hid hg2
   have hsz2:=hg2.size
   have HV2:=Lib.hid (HV1.out.gr hg2 (by omega))
   have HS2:=Lib.hid (show SL pC 10 94 w2 w1.heap.size (.slice (some ⟨g2,0,none⟩) 4 c2) sqP from hS2)
   clear hS2 hg2 hc1 hf1
   simp only [sqP,List.length_cons,List.length_nil,Nat.zero_add,Nat.reduceAdd]
   go_wp2_with fail
   refine(sort_sq g2 c2 _ _ HS2.out).mono ?_
   rintro e w3 ⟨rfl,hS3,hg3⟩
   obtain ⟨g3,c3,e3,_,_,_,hsh3,hR3⟩:=hS3.block (by simp [sqS])
   cases e3
   have hg2l:=hsh3.lt
   have HG3:=Lib.hid hg3
   have hsz3:=hg3.size
   have HV3:=Lib.hid (HV2.out.gr hg3 (by omega))
   have HR3:=Lib.hid hR3
   obtain ⟨b0,b1,b2,_⟩:=HV3.out.three
   have h0:w.heap.size<w3.heap.size:=HV3.out.lt
   clear hS3 hg3 hsh3 hR3
   go_wp2_with fail
   refine wp_region_held_drew (S:=(fun w'=>w'.cell? ⟨w.heap.size,0,none⟩=some (.slice (some ⟨gp,0,none⟩) 4 cp)∧w'.cell? ⟨w.heap.size,1,none⟩=some (.slice (some ⟨gt,0,none⟩) 2 ct)∧w'.cell? ⟨w.heap.size,2,none⟩=some (.slice as_ rs.length cs))) (by kernel_rfl) ?_ (fun hHeld=>?_)
   ·simp [go_sem, *]
   refine tk 0 (some 38) (.slice (some ⟨g2,0,none⟩) 4 c2) ?_
   try simp only [pS]
   refine tk 3 (some 41) (.pointer (some ⟨w.heap.size,0,none⟩)) ?_
   try simp only [pS]
   refine tk 4 (some 42) (.slice (some ⟨gp,0,none⟩) 4 cp) ?_
   try simp only [pS]
   refine tk 5 (some 43) (.int .i64 4) ?_
   try simp only [pS]
   refine rd 1 (fun K hK=>?_)
   go_simp
   (refine(compact_sq g2 c2 _ (by first|exact hg2l|(simp;exact hg2l)) (by first|exact HR3.out|exact HR3.out.drew)).mono ?_;rintro e w4 ⟨rfl,hg4⟩;(try (with_reducible replace hg4:=Gr.of_drew hg4));have hsz4:=hg4.size;(try simp at hsz4);have hy4_0:w.heap.size<w4.heap.size:=(by omega);obtain ⟨hc4,hf4⟩:=hg4.cells;have HG4:=Lib.hid hg4;clear hg4)
   (try dsimp only)
   refine hK.out _ _ ?_ (fun hQ1=>?_)
   ·(first|exact trivial|((try dsimp only);simp [go_sem, *]))
   clear hK K hHeld
   try simp only [pS]
   refine tk 2 (some 40) (.int .i64 4) ?_
   try simp only [pS]
   refine tk 6 (some 44) (.bool true) ?_
   try simp only [pS]
   refine tk 7 (some 2) (.bool true) ?_
   try simp only [pS]
   refine wpAnyH_done (by kernel_rfl) ?_ _
   go_wp2
   go_ret
   exact⟨rfl,by(with_reducible (repeat' (first|exact Gr.refl _ _|refine Gr.drew ?_|refine Gr.setCell ?_ ?_ _|refine Gr.alloc ?_ ?_ _|refine Gr.trans ?_ (Gr.mono HG4.out ?_)|refine Gr.trans ?_ (Gr.mono HG3.out ?_)|refine Gr.trans ?_ (Gr.mono HG2.out ?_)|refine Gr.trans ?_ (Gr.mono HG1.out ?_)|refine Gr.trans ?_ (Gr.mono HG.out ?_)|omega|(simp;done)|(simp;omega))))⟩
end Go.Proofs.YtmelogdhllhjiaaGreat
namespace Go.Proofs.YtmelogdhllhjiaaGreat
open Go.RowKit Gus
theorem ms_Bary (a b c p:Pt) (w:World) (ha:hp a≤1000) (hb:hp b≤1000) (hc:hp c≤1000) (hq:hp p≤1000) (h0:(twice a b c).num≠0):
  Calls Tryz.prog 193 #[pV a,pV b,pV c,pV p] w (Ret w (.tuple #[f3V (twice p b c / twice a b c).num (fm (twice p b c / twice a b c)) (twice a p c / twice a b c).num (fm (twice a p c / twice a b c)) (twice a b p / twice a b c).num (fm (twice a b p / twice a b c)),.int .i64 0])):=by
 have e0:=hw_twice a b c
 have e1:=hw_twice p b c
 have e2:=hw_twice a p c
 have e3:=hw_twice a b p
 exact Bary_raw (fun w=>tr_twice a b c w (by omega) (by omega) (by omega)) (fun w=>tr_twice p b c w (by omega) (by omega) (by omega)) (fun w=>tr_twice a p c w (by omega) (by omega) (by omega)) (fun w=>tr_twice a b p w (by omega) (by omega) (by omega))
  (fun w=>fr_Div _ _ w (by omega) (by omega) h0) (fun w=>fr_Div _ _ w (by omega) (by omega) h0) (fun w=>fr_Div _ _ w (by omega) (by omega) h0) w
def barS (a b c p:Pt):Nat→Int
 | 0=>sgnI (twice p b c / twice a b c).num
 | 1=>sgnI (twice a p c / twice a b c).num
 | _=>sgnI (twice a b p / twice a b c).num
theorem ms_Where (a b c p:Pt) (w:World) (ha:hp a≤1000) (hb:hp b≤1000) (hc:hp c≤1000) (hq:hp p≤1000) (h0:(twice a b c).num≠0):
  Calls Tryz.prog 169 #[pV a,pV b,pV c,pV p] w (Ret w (.int .i64 (whereS (barS a b c p)))):=
 Where_raw (barS a b c p) (fun w=>ms_Bary a b c p w ha hb hc hq h0) (fun w=>Sign_raw _ _ w) (fun w=>Sign_raw _ _ w) (fun w=>Sign_raw _ _ w) w
theorem wl_zero:wl 0=0:=by unfold wl;simp
theorem wl_one:wl 1=1:=by unfold wl;simp [wl_zero]
theorem hw_zero:hw 0=1:=by unfold hw;simp [sz,wl_zero,wl_one]
theorem hw_one:hw 1=1:=by unfold hw;simp [sz,wl_one]
theorem sqP_small:∀p∈sqP,hp p≤1:=by
 intro p h
 simp only [sqP,List.mem_cons,List.not_mem_nil,or_false]at h
 rcases h with rfl|rfl|rfl|rfl<;>simp [hp,hw_zero,hw_one]
def cnA:Nat→Pt:=fun _=>⟨0,0⟩
def cnB:Nat→Pt
 | 0=>⟨1,0⟩
 | _=>⟨1,1⟩
def cnC:Nat→Pt
 | 0=>⟨1,1⟩
 | _=>⟨0,1⟩
theorem sq_corners (rs:List Tri) (vp vt vs:Value) (j:Nat) (hj:j<sqT.length) (W:World) (hM:MS W 0 vp vt vs ⟨sqP,sqT,rs⟩):
  Calls Tryz.prog 167 #[.agg #[vp,vt,vs],.int .i64 (j:Int)] W (Ret W (c3V (cnA j) (cnB j) (cnC j))):=by
 rcases(show j=0∨j=1 by simp only [sqT,List.length_cons,List.length_nil]at hj;omega)with rfl|rfl
 ·exact ms_corners ⟨sqP,sqT,rs⟩ vp vt vs 0 (0,1,2) _ _ _ W hM (by simp [sqT]) rfl (by simp [sqP]) (by simp [sqP]) (by simp [sqP]) rfl rfl rfl
 ·exact ms_corners ⟨sqP,sqT,rs⟩ vp vt vs 1 (0,2,3) _ _ _ W hM (by simp [sqT]) rfl (by simp [sqP]) (by simp [sqP]) (by simp [sqP]) rfl rfl rfl
theorem sq_beyond (W:World):Calls Tryz.prog 168 #[c3V (cnA 1) (cnB 1) (cnC 1),c3V (cnA 0) (cnB 0) (cnC 0)] W (Ret W (.bool true)):=by
 have s0:=sqP_small (cnA 0) (by simp [sqP,cnA])
 have s1:=sqP_small (cnB 0) (by simp [sqP,cnB])
 have s2:=sqP_small (cnC 0) (by simp [sqP,cnC])
 refine ms_beyond _ _ _ _ _ _ W (by have:=sqP_small (cnA 1) (by simp [sqP,cnA]);omega) (by have:=sqP_small (cnB 1) (by simp [sqP,cnB]);omega) ?_
 intro r hr
 simp only [List.mem_cons,List.not_mem_nil,or_false]at hr
 rcases hr with rfl|rfl|rfl
 ·exact⟨by omega,by decide+kernel⟩
 ·exact⟨by omega,by decide+kernel⟩
 ·exact⟨by omega,by decide+kernel⟩
theorem sq_where0 (W:World):Calls Tryz.prog 169 #[pV (cnA 0),pV (cnB 0),pV (cnC 0),pV ⟨0,1⟩] W (Ret W (.int .i64 0)):=by
 have h:=ms_Where (cnA 0) (cnB 0) (cnC 0) ⟨0,1⟩ W (by have:=sqP_small (cnA 0) (by simp [sqP,cnA]);omega) (by have:=sqP_small (cnB 0) (by simp [sqP,cnB]);omega) (by have:=sqP_small (cnC 0) (by simp [sqP,cnC]);omega) (by have:=sqP_small ⟨0,1⟩ (by simp [sqP]);omega) (by decide+kernel)
 rwa [show whereS (barS (cnA 0) (cnB 0) (cnC 0) ⟨0,1⟩)=0 by decide+kernel]at h
theorem sq_where1 (W:World):Calls Tryz.prog 169 #[pV (cnA 1),pV (cnB 1),pV (cnC 1),pV ⟨1,0⟩] W (Ret W (.int .i64 0)):=by
 have h:=ms_Where (cnA 1) (cnB 1) (cnC 1) ⟨1,0⟩ W (by have:=sqP_small (cnA 1) (by simp [sqP,cnA]);omega) (by have:=sqP_small (cnB 1) (by simp [sqP,cnB]);omega) (by have:=sqP_small (cnC 1) (by simp [sqP,cnC]);omega) (by have:=sqP_small ⟨1,0⟩ (by simp [sqP]);omega) (by decide+kernel)
 rwa [show whereS (barS (cnA 1) (cnB 1) (cnC 1) ⟨1,0⟩)=0 by decide+kernel]at h
theorem sq_apart (rs:List Tri) (vp vt vs:Value) (w:World) (hM:MS w 0 vp vt vs ⟨sqP,sqT,rs⟩):Calls Tryz.prog 140 #[.agg #[vp,vt,vs]] w (Ret w (.bool true)):=by
 refine apart_raw ⟨sqP,sqT,rs⟩ vp vt vs cnA cnB cnC w hM (fun j hj W hW=>sq_corners rs vp vt vs j hj W hW) ?_ ?_
 ·intro i k hk hi W
  simp only [sqT,List.length_cons,List.length_nil]at hi
  obtain rfl:i=1:=by omega
  obtain rfl:k=0:=by omega
  exact sq_beyond W
 ·intro i t q p ht hq hh W
  rcases(show i=0∨i=1∨2≤i by omega)with rfl|rfl|hi
  ·simp [sqT]at ht
   subst ht
   rcases(show q=0∨q=1∨q=2∨q=3∨4≤q by omega)with rfl|rfl|rfl|rfl|h4
   ·exact absurd hh (by decide)
   ·exact absurd hh (by decide)
   ·exact absurd hh (by decide)
   ·simp [sqP]at hq
    subst hq
    exact sq_where0 W
   ·rw [List.getElem?_eq_none (by simp [sqP];omega)]at hq
    cases hq
  ·simp [sqT]at ht
   subst ht
   rcases(show q=0∨q=1∨q=2∨q=3∨4≤q by omega)with rfl|rfl|rfl|rfl|h4
   ·exact absurd hh (by decide)
   ·simp [sqP]at hq
    subst hq
    exact sq_where1 W
   ·exact absurd hh (by decide)
   ·exact absurd hh (by decide)
   ·rw [List.getElem?_eq_none (by simp [sqP];omega)]at hq
    cases hq
  ·rw [List.getElem?_eq_none (by simp [sqT];omega)]at ht
   cases ht
theorem sq_good:GoodA ⟨sqP,sqT,rmS⟩ where
 tri:=by
  intro t ht
  refine⟨sqT_good t ht,fun a b c ha hb hc=>?_⟩
  simp only [sqT,List.mem_cons,List.not_mem_nil,or_false]at ht
  rcases ht with rfl|rfl
  ·simp [sqP]at ha hb hc
   subst ha hb hc
   decide+kernel
  ·simp [sqP]at ha hb hc
   subst ha hb hc
   decide+kernel
 side:=by decide
 hp_:=fun p h=>by have:=sqP_small p h;omega
 one:=by decide
theorem sq_Check (vp vt vs:Value) (w:World) (hM:MS w 0 vp vt vs ⟨sqP,sqT,rmS⟩):Calls Tryz.prog 105 #[.agg #[vp,vt,vs]] w (Ret w (.int .i64 0)):=
 msCheck_raw ⟨sqP,sqT,rmS⟩ vp vt vs w hM (by decide) (by decide) (by decide) (fun W h=>ms_args ⟨sqP,sqT,rmS⟩ vp vt vs W h sq_good) (fun W h=>ms_once rmS vp vt vs W h) (fun W h=>sq_apart rmS vp vt vs W h)
  (fun W h=>rimmed_raw ⟨sqP,sqT,rmS⟩ rmS vp vt vs W h (fun W h=>(ms_Rim sqP rfl vp vt W h.1 h.2.1).mono (fun e w' h=>by obtain ⟨v,h1,h2,h3⟩:=h;exact⟨v,h1,h2.mono (Nat.zero_le _),h3⟩)) rfl)
end Go.Proofs.YtmelogdhllhjiaaGreat
