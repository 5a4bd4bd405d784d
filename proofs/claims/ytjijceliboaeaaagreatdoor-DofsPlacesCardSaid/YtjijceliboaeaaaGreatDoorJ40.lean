/-
  Part 40 of the proof: DofD Sid.
-/
import Derived.Test.YtjijceliboaeaaaGreatDoorJ39
import Derived.Test.YtjijceliboaeaaaGreatDoorJ21
set_option linter.unusedSimpArgs false
set_option linter.unusedVariables false
namespace Go.Proofs.YtjijceliboaeaaaGreatDoor
open Go.RowKit Gus Go.Maps
def esM (l:List Tri):List Edg:=(stE l l.length).mergeSort fun a b=> !decide (ordE b a<0)
theorem esM_perm (l:List Tri):(esM l).Perm (stE l l.length):=List.mergeSort_perm _ _
theorem esM_sorted (l:List Tri):(esM l).Pairwise fun a b=> ¬ordE b a<0:=by
 refine(List.pairwise_mergeSort (le:=fun a b=> !decide (ordE b a<0)) ?_ ?_ _).imp (fun {a b} h=>by simpa using h)
 ·intro a b c h1 h2
  simp only [Bool.not_eq_true',decide_eq_false_iff_not,ordE_lt]at h1 h2 ⊢
  omega
 ·intro a b
  simp only [Bool.or_eq_true,Bool.not_eq_true',decide_eq_false_iff_not,ordE_lt]
  omega
theorem esM_ends (l:List Tri):(ends (esM l)).Nodup:=((esM_perm l).map _).nodup_iff.2 (stE_nodup l l.length)
theorem esM_len (l:List Tri):(esM l).length≤3*l.length:=by rw [(esM_perm l).length_eq];exact stE_len _ _
theorem esM_Ends {N:Nat} {l:List Tri} (hl:∀t∈l,goodT N t):Ends N (esM l):=fun e he=>stE_ends hl l.length e ((esM_perm l).subset he)
theorem esM_mem {N:Nat} {l:List Tri} (hl:∀t∈l,goodT N t) (a b:Nat):((a:Int),(b:Int))∈ends (esM l)↔a<b∧∃t∈l,has3 t a=true∧has3 t b=true:=by
 rw [show((a:Int),(b:Int))∈ends (esM l)↔((a:Int),(b:Int))∈ends (stE l l.length)from((esM_perm l).map fun e=>(e.a,e.b)).mem_iff]
 have:=stE_mem hl a b l.length
 rwa [List.take_length]at this
theorem esM_hasE {N:Nat} {l:List Tri} (hl:∀t∈l,goodT N t) {t:Tri} (ht:t∈l) {a b:Nat} (hab:a≠b) (ha:has3 t a=true) (hb:has3 t b=true):hasE (esM l) a b:=by
 have h:(((min a b:Nat):Int),((max a b:Nat):Int))∈ends (esM l):=(esM_mem hl _ _).2 ⟨by omega,t,ht,by
  rcases Nat.le_total a b with h|h
  ·rw [Nat.min_eq_left h];exact ha
  ·rw [Nat.min_eq_right h];exact hb,by
  rcases Nat.le_total a b with h|h
  ·rw [Nat.max_eq_right h];exact hb
  ·rw [Nat.max_eq_left h];exact ha⟩
 obtain ⟨e,he,h1⟩:=List.mem_map.1 h
 injection h1 with h1 h2
 exact⟨e,he,h1,h2⟩
theorem esM_pair (l:List Tri):(esM l).Pairwise fun a b=> ¬(a.a=b.a∧a.b=b.b):=by
 have h:=esM_ends l
 unfold ends at h
 rw [List.Nodup,List.pairwise_map]at h
 exact h.imp (fun {a b} h e=>h (by rw [e.1,e.2]))
theorem ms_EdgesM (m:Msh) (vp vt vs:Value) (w:World) (hM:MS w 0 vp vt vs m) (hN:m.pts.length≤1000000) (hl:∀t∈m.tris,goodT m.pts.length t) (hn:m.tris.length≤1000000) (hne0:m.tris≠ []):
  Calls Tryz.prog 7 #[.agg #[vp,vt,vs]] w (fun e w'=> ∃v',e= .returned v'∧SR eC 4 84 w' w.heap.size v' (esM m.tris)∧Gr w.heap.size w w'):=by
 refine(ms_EdgesG m vp vt vs w hM hN hl hn hne0).mono ?_
 rintro e w' ⟨v',rfl,es,hS,hp,hs,hg⟩
 have:=es_unique (stE_nodup _ _) hp hs (esM_perm m.tris) (esM_sorted m.tris)
 subst this
 exact⟨v',rfl,hS,hg⟩
def atM (o:Nat) (m:Msh):List Pt:=if o=2 then m.pts++(esM m.tris).map (midE m.pts)else m.pts
def numM (o:Nat) (m:Msh):Nat:=m.pts.length+(if o=2 then(esM m.tris).length else 0)
theorem atM_len (o:Nat) (m:Msh):(atM o m).length=numM o m:=by unfold atM numM;split<;>simp
def rowM (o:Nat) (m:Msh) (t:Tri):List Nat:=rowT o m.pts.length (esM m.tris) t
def TabM (w:World) (B o:Nat) (m:Msh) (x y z:Value):Prop:=RWr w B x (m.tris.map (rowM o m))∧SR pC 10 55 w B y (atM o m)∧SR i2C 2 85 w B z ((esM m.tris).map abE)
theorem TabM.gr {w w':World} {B o:Nat} {m:Msh} {x y z:Value} (h:TabM w B o m x y z) (hg:Gr w.heap.size w w'):TabM w' B o m x y z:=⟨h.1.gr hg,h.2.1.gr hg,h.2.2.gr hg⟩
theorem TabM.mono {w:World} {B C o:Nat} {m:Msh} {x y z:Value} (h:TabM w B o m x y z) (hB:C≤B):TabM w C o m x y z:=⟨h.1.mono hB,h.2.1.mono hB,h.2.2.mono hB⟩
abbrev tabV (o n:Nat) (x y z:Value):Value:= .agg #[.int .i64 (o:Int),.int .i64 (n:Int),x,y,z]
theorem g_Of (m:Msh) (o:Nat) (ho:o=1∨o=2) (hN:m.pts.length≤1000) (hT:m.tris.length≤1000) (hl:∀t∈m.tris,goodT m.pts.length t) (hne:m.tris≠ []) (hpt:∀p∈m.pts,hp p≤1000000000)
  (hChk:∀(W:World) a b c,MS W 0 a b c m→Calls Tryz.prog 15 #[.agg #[a,b,c]] W (Ret W (.int .i64 0))) (a b c:Value) (w:World) (hM:MS w 0 a b c m):
  Calls Tryz.prog 5 #[.agg #[a,b,c],.int .i64 (o:Int)] w (fun e w'=> ∃x y z,e= .returned (.tuple #[tabV o (numM o m) x y z,.int .i64 0])∧TabM w' w.heap.size o m x y z∧Gr w.heap.size w w'):=by
 have hE:∀t∈m.tris,t.1<m.pts.length∧t.2.1<m.pts.length∧t.2.2<m.pts.length∧hasE (esM m.tris) t.2.1 t.2.2∧hasE (esM m.tris) t.2.2 t.1∧hasE (esM m.tris) t.1 t.2.1:=by
  intro t ht
  obtain ⟨g1,g2,g3,e1,e2,e3⟩:=hl t ht
  have h1:has3 t t.1=true:=by simp [has3]
  have h2:has3 t t.2.1=true:=by simp [has3]
  have h3:has3 t t.2.2=true:=by simp [has3]
  exact⟨g1,g2,g3,esM_hasE hl ht e2 h2 h3,esM_hasE hl ht e3 h3 h1,esM_hasE hl ht e1 h1 h2⟩
 have hlen:(esM m.tris).length≤3000:=by have:=esM_len m.tris;omega
 rcases ho with rfl|rfl
 ·refine(df_Of1 m (esM m.tris) a b c w hM hN hT hE hlen (esM_Ends hl) hpt (esM_pair _) (fun W hW=>hChk W _ _ _ (hM.gr hW)) (fun W hW=>ms_EdgesM m _ _ _ W (hM.gr hW) (by omega) hl (by omega) hne)).mono ?_
  rintro e w' ⟨x,y,z,rfl,h1,h2,h3,hg⟩
  exact⟨x,y,z,rfl,⟨h1,h2,h3⟩,hg⟩
 ·refine(df_Of2 m (esM m.tris) a b c w hM hN hT hE hlen (esM_Ends hl) hpt (esM_pair _) (fun W hW=>hChk W _ _ _ (hM.gr hW)) (fun W hW=>ms_EdgesM m _ _ _ W (hM.gr hW) (by omega) hl (by omega) hne)).mono ?_
  rintro e w' ⟨x,y,z,rfl,h1,h2,h3,hg⟩
  exact⟨x,y,z,rfl,⟨h1,h2,h3⟩,hg⟩
end Go.Proofs.YtjijceliboaeaaaGreatDoor
namespace Go.Proofs.YtjijceliboaeaaaGreatDoor
open Go.RowKit Gus Go.Maps
def IR (w:World) (B:Nat) (v:Value) (l:List Nat):Prop:=SR iC 1 3 w B v l∧∃a,v= .slice a l.length l.length
theorem IR.gr {w w':World} {B:Nat} {v:Value} {l:List Nat} (h:IR w B v l) (hg:Gr w.heap.size w w'):IR w' B v l:=⟨h.1.gr hg,h.2⟩
theorem IR.mono {w:World} {B C:Nat} {v:Value} {l:List Nat} (h:IR w B v l) (hB:C≤B):IR w C v l:=⟨h.1.mono hB,h.2⟩
theorem RC.fI {w:World} {g:Nat} {l:List Nat} (h:RC iC 1 w g l) {k:Nat} (hk:k<l.length) {p:Nat} (hp:l[k]=p):w.cell? ⟨g,k,none⟩=some (.int .i64 (p:Int)):=by
 subst hp
 have:=h k hk 0 _ rfl
 simpa using this
set_option maxRecDepth 20000 in
set_option maxHeartbeats 8000000 in
theorem law_Ints (l:List Nat) (a b:Value) (w:World) (h1:IR w 0 a l) (h2:SR iC 1 3 w 0 b l) (hn:l.length≤1000000):Calls Tryz.prog 33 #[a,b] w (Ret w (.bool true)):=by
 obtain ⟨h1,aa,rfl⟩:=h1
 obtain ⟨ab,cb,rfl⟩:=h2.at
 have H1:=Lib.hid h1
 have H2:=Lib.hid h2
 clear h1 h2
 go_enter Tryz.func33,Tryz.ntmps33
 go_wp2
 go_loopw [5] (fun s wr=> ∃i:Nat,i≤l.length∧s= .int .i64 i∧Hid (Gr w.heap.size w wr)) (fun s _=>l.length - (intOf s).toNat)
 case atStart=>exact⟨0,Nat.zero_le _,rfl,Lib.hid (Gr.refl _ _)⟩
 case round=>
  obtain ⟨i,hi,rfl,HG⟩:=hrel
  have hsz:=HG.out.size
  by_cases hlt:i<l.length
  ·have q0:(i:Int)<(l.length:Int):=by omega
   have hi0:(0:Int)≤(i:Int):=by omega
   obtain ⟨x,hx⟩:∃x,l[i]=x:=⟨_,rfl⟩
   obtain ⟨g,cap',e4,_,_,_,hsh,hR⟩:=(H1.out.gr HG.out).block (by intro e;rw [e]at hlt;simp at hlt)
   injection e4 with e4 _ e5
   subst e4
   obtain ⟨g2,cap2,e4,_,_,_,hsh2,hR2⟩:=(H2.out.gr HG.out).block (by intro e;rw [e]at hlt;simp at hlt)
   injection e4 with e4 _ e5
   subst e4 e5
   have u0:=hR.fI hlt hx
   have u1:=hR2.fI hlt hx
   clear hR hR2 hsh hsh2 hx
   go_upto_region 6 with fail
   refine wp_region_held_drew (S:=(fun w'=>w'.cell? ⟨g,i,none⟩=some (.int .i64 (x:Int))∧w'.cell? ⟨g2,i,none⟩=some (.int .i64 (x:Int)))) (by kernel_rfl) ?_ (fun hHeld=>?_)
   ·simp [go_sem, *]
   refine tk 0 (some 24) (.slice (some ⟨g,0,none⟩) l.length l.length) ?_
   try simp only [pS]
   refine tk 1 (some 25) (.int .i64 (i:Int)) ?_
   try simp only [pS]
   refine tk 2 (some 26) (.pointer (some ⟨g,i,none⟩)) ?_
   try simp only [pS]
   refine tk 3 (some 27) (.int .i64 (x:Int)) ?_
   try simp only [pS]
   refine tk 4 (some 28) (.slice (some ⟨g2,0,none⟩) l.length cb) ?_
   try simp only [pS]
   refine tk 5 (some 29) (.int .i64 (i:Int)) ?_
   try simp only [pS]
   refine tk 6 (some 30) (.pointer (some ⟨g2,i,none⟩)) ?_
   try simp only [pS]
   refine tk 7 (some 31) (.int .i64 (x:Int)) ?_
   try simp only [pS]
   refine tk 8 (some 32) (.bool false) ?_
   try simp only [pS]
   refine wpAnyH_done (by kernel_rfl) ?_ _
   go_wp2
   go_roundw
   case rel=>exact⟨i+1,by omega,by go_num,Lib.hid (HG.out.trans (by(with_reducible (repeat' (first|exact Gr.refl _ _|refine Gr.drew ?_|refine Gr.setCell ?_ ?_ _|refine Gr.alloc ?_ ?_ _|omega|(simp;done)|(simp;omega))))))⟩
   case measure=>simp [intOf];omega
  ·have hil:i=l.length:=by omega
   subst hil
   go_wp2
   go_ret
   exact⟨rfl,HG.out⟩
theorem eqIn_I2 (a b c d:Int) (W:World):(Op.equalIn 10000 85 (.agg #[.int .i64 a,.int .i64 b]) (.agg #[.int .i64 c,.int .i64 d])).run Tryz.prog W= .ok (a == c && b == d) W:=by
 obtain ⟨i,hi⟩:∃i,Tryz.prog.info? 3=some i:=Option.isSome_iff_exists.1 (by kernel_rfl)
 have hc:Tryz.prog.cellsOf 3=1:=by kernel_rfl
 have h:=run_equalIn_array (P:=Tryz.prog) W 9999 (t:=85) (e:=3) (n:=2) #[.int .i64 a,.int .i64 b] #[.int .i64 c,.int .i64 d] Tryz.underlying85 hi
 rw [hc]at h
 rw [h]
 simp only [show List.range 2= [0,1]from rfl,Op.eqItems]
 go_simp
 by_cases h1:a=c
 ·subst h1
  by_cases h2:b=d
  ·subst h2;simp
  ·simp [h2]
 ·simp [h1]
def pairNo (l:List (Int×Int)) (p q:Int):Int:=idxP (fun e=>e.1 == p && e.2 == q) l
theorem idxP_take {α:Type} {f:α→Bool} {l:List α} {i:Nat} (hi:i<l.length) (h0:∀e∈l.take i,f e=false) (h:f l[i]=true):idxP f l=(i:Int):=by
 have:l.findIdx? f=some i:=by
  rw [List.findIdx?_eq_some_iff_getElem]
  refine⟨hi,h,fun j hj=>?_⟩
  have:=h0 l[j] (List.mem_iff_getElem.2 ⟨j,by simp;omega,by simp⟩)
  simpa using this
 unfold idxP
 rw [this]
theorem idxP_none {α:Type} {f:α→Bool} {l:List α} (h0:∀e∈l,f e=false):idxP f l= -1:=by
 have:l.findIdx? f=none:=List.findIdx?_eq_none_iff.2 h0
 unfold idxP
 rw [this]
set_option maxRecDepth 20000 in
set_option maxHeartbeats 8000000 in
theorem index_Pair (l:List (Int×Int)) (v:Value) (p q:Int) (w:World) (hS:SR i2C 2 85 w 0 v l) (hn:l.length≤1000000):Calls Tryz.prog 59 #[v,.agg #[.int .i64 p,.int .i64 q]] w (Ret w (.int .i64 (pairNo l p q))):=by
 obtain ⟨av,cv,rfl⟩:=hS.at
 have HS:=Lib.hid hS
 clear hS
 obtain ⟨r,hr⟩:∃r,pairNo l p q=r:=⟨_,rfl⟩
 rw [hr]
 have HR:=Lib.hid hr
 clear hr
 go_enter Tryz.func59,Tryz.ntmps59
 go_wp2
 have HB:=Lib.hid (show VB (w.alloc (.cells #[.int .i64 p,.int .i64 q] 85)) w.heap.size [.int .i64 p,.int .i64 q]from by(with_reducible (repeat' (first|(refine VB.new' ?_;exact(by first|omega|(simp;done)|(simp;omega)))|apply VB.put2|apply VB.put3|apply VB.put5|refine VB.drew ?_|refine VB.far ?_ ?_ _|refine VB.alloc ?_ _|omega|(simp;done)|(simp;omega)))))
 go_loopw [8] (fun s wr=> ∃i:Nat,i≤l.length∧s= .int .i64 i∧Hid (∀e∈l.take i,(e.1 == p && e.2 == q)=false)∧Hid (VB wr w.heap.size [.int .i64 p,.int .i64 q])∧Hid (Gr w.heap.size w wr)) (fun s _=>l.length - (intOf s).toNat)
 case atStart=>exact⟨0,Nat.zero_le _,rfl,Lib.hid (by simp),HB,Lib.hid (by(with_reducible (repeat' (first|exact Gr.refl _ _|refine Gr.drew ?_|refine Gr.setCell ?_ ?_ _|refine Gr.alloc ?_ ?_ _|omega|(simp;done)|(simp;omega)))))⟩
 case round=>
  clear HB
  obtain ⟨i,hi,rfl,HN,HB,HG⟩:=hrel
  have hsz:=HG.out.size
  by_cases hlt:i<l.length
  ·have q0:(i:Int)<(l.length:Int):=by omega
   have hi0:(0:Int)≤(i:Int):=by omega
   obtain ⟨⟨a,b⟩,hx⟩:∃x,l[i]=x:=⟨_,rfl⟩
   have hsucc:Hid ((a == p && b == q)=false→∀e∈l.take (i+1),(e.1 == p && e.2 == q)=false):=Lib.hid fun h e he=>by
    rw [List.take_add_one,List.getElem?_eq_getElem hlt,hx]at he
    rcases List.mem_append.1 he with he|he
    ·exact HN.out e he
    ·simp at he;subst he;exact h
   have hfin:Hid ((a == p && b == q)=true→r=(i:Int)):=Lib.hid fun h=>by
    rw [←HR.out];exact idxP_take hlt HN.out (by rw [hx];exact h)
   obtain ⟨g,cap',e4,_,_,_,hsh,hR⟩:=(HS.out.gr HG.out).block (by intro e;rw [e]at hlt;simp at hlt)
   injection e4 with e4 _ e5
   subst e4 e5
   obtain ⟨u0,u1⟩:=hR.fI2 hlt hx
   dsimp only at u0 u1
   clear hR hsh hx
   have x0:=HB.out.c 0 _ rfl
   have x1:=HB.out.c 1 _ rfl
   by_cases hab:a=p∧b=q
   ·obtain ⟨rfl,rfl⟩:=hab
    have heq:∀W,(Op.equalIn 10000 85 (.agg #[.int .i64 a,.int .i64 b]) (.agg #[.int .i64 a,.int .i64 b])).run Tryz.prog W= .ok true W:=fun W=>(eqIn_I2 a b a b W).trans (by simp)
    go_upto_region 4 with fail
    refine wp_region_held_drew (S:=(fun w'=>w'.cell? ⟨w.heap.size,0,none⟩=some (.int .i64 a)∧w'.cell? ⟨w.heap.size,1,none⟩=some (.int .i64 b)∧w'.cell? ⟨g,i*2,none⟩=some (.int .i64 a)∧w'.cell? ⟨g,i*2+1,none⟩=some (.int .i64 b))) (by kernel_rfl) ?_ (fun hHeld=>?_)
    ·simp [go_sem, *]
    refine tk 0 (some 11) (.agg #[.int .i64 a,.int .i64 b]) ?_
    try simp only [pS]
    refine tk 1 (some 12) (.slice (some ⟨g,0,none⟩) l.length cv) ?_
    try simp only [pS]
    refine tk 2 (some 13) (.int .i64 (i:Int)) ?_
    try simp only [pS]
    refine tk 3 (some 14) (.pointer (some ⟨g,i*2,none⟩)) ?_
    try simp only [pS]
    refine tk 4 (some 15) (.agg #[.int .i64 a,.int .i64 b]) ?_
    try simp only [pS]
    refine tk 5 (some 16) (.bool true) ?_
    try simp only [pS]
    refine wpAnyH_done (by kernel_rfl) ?_ _
    go_wp2
    go_ret
    exact⟨by rw [hfin.out (by simp)];rfl,HG.out.trans (by(with_reducible (repeat' (first|exact Gr.refl _ _|refine Gr.drew ?_|refine Gr.setCell ?_ ?_ _|refine Gr.alloc ?_ ?_ _|omega|(simp;done)|(simp;omega)))))⟩
   ·have hab2:(a == p && b == q)=false:=by simpa using hab
    replace hsucc:=Lib.hid (hsucc.out hab2)
    have heq:∀W,(Op.equalIn 10000 85 (.agg #[.int .i64 p,.int .i64 q]) (.agg #[.int .i64 a,.int .i64 b])).run Tryz.prog W= .ok false W:=fun W=>(eqIn_I2 p q a b W).trans (by simp;intro h1 h2;exact hab ⟨h1.symm,h2.symm⟩)
    clear hab2
    go_upto_region 4 with fail
    refine wp_region_held_drew (S:=(fun w'=>w'.cell? ⟨w.heap.size,0,none⟩=some (.int .i64 p)∧w'.cell? ⟨w.heap.size,1,none⟩=some (.int .i64 q)∧w'.cell? ⟨g,i*2,none⟩=some (.int .i64 a)∧w'.cell? ⟨g,i*2+1,none⟩=some (.int .i64 b))) (by kernel_rfl) ?_ (fun hHeld=>?_)
    ·simp [go_sem, *]
    refine tk 0 (some 11) (.agg #[.int .i64 p,.int .i64 q]) ?_
    try simp only [pS]
    refine tk 1 (some 12) (.slice (some ⟨g,0,none⟩) l.length cv) ?_
    try simp only [pS]
    refine tk 2 (some 13) (.int .i64 (i:Int)) ?_
    try simp only [pS]
    refine tk 3 (some 14) (.pointer (some ⟨g,i*2,none⟩)) ?_
    try simp only [pS]
    refine tk 4 (some 15) (.agg #[.int .i64 a,.int .i64 b]) ?_
    try simp only [pS]
    refine tk 5 (some 16) (.bool false) ?_
    try simp only [pS]
    clear heq
    refine wpAnyH_done (by kernel_rfl) ?_ _
    have q6:IntKind.i64.wrap ((i:Int)+1)=((i+1:Nat):Int):=by rw [wrap64_id (by omega) (by omega)];omega
    go_wp2
    go_roundw
    case rel=>exact⟨i+1,by omega,by go_num,hsucc,Lib.hid (by(with_reducible (repeat' (first|(refine VB.new' ?_;exact(by first|omega|(simp;done)|(simp;omega)))|apply VB.put2|apply VB.put3|apply VB.put5|refine VB.drew ?_|refine VB.far ?_ ?_ _|refine VB.alloc ?_ _|exact HB.out|omega|(simp;done)|(simp;omega))))),Lib.hid (HG.out.trans (by(with_reducible (repeat' (first|exact Gr.refl _ _|refine Gr.drew ?_|refine Gr.setCell ?_ ?_ _|refine Gr.alloc ?_ ?_ _|omega|(simp;done)|(simp;omega))))))⟩
    case measure=>simp [intOf];omega
  ·have hil:i=l.length:=by omega
   subst hil
   have hN:=HN.out
   rw [List.take_length]at hN
   have hr:Hid (r= -1):=Lib.hid (by rw [←HR.out];exact idxP_none hN)
   clear hN
   go_wp2
   go_ret
   exact⟨by rw [hr.out];rfl,HG.out⟩
def sideL (o n m a b k:Nat):List Nat:= [a,b]++(if o=2 then [n - m+k]else [])
set_option maxRecDepth 20000 in
set_option maxHeartbeats 8000000 in
theorem side_none (o n:Nat) (x y z:Value) (l:List (Int×Int)) (a b:Nat) (w:World) (hS:SR i2C 2 85 w 0 z l) (hn:l.length≤1000000) (hk:pairNo l ((min a b:Nat):Int) ((max a b:Nat):Int)= -1):
  Calls Tryz.prog 32 #[tabV o n x y z,.int .i64 (a:Int),.int .i64 (b:Int)] w (Ret w (.tuple #[.slice none 0 0,.int .i64 1])):=by
 obtain ⟨az,cz,rfl⟩:=hS.at
 have HP:=Lib.hid (fun W=>df_pair a b W)
 have HI:=Lib.hid (fun (W:World) (hW:Gr w.heap.size w W)=>(index_Pair l _ ((min a b:Nat):Int) ((max a b:Nat):Int) W (hS.gr hW) hn))
 rw [hk]at HI
 obtain ⟨lo,hlo⟩:∃q,min a b=q:=⟨_,rfl⟩
 obtain ⟨hi,hhi⟩:∃q,max a b=q:=⟨_,rfl⟩
 rw [hlo,hhi]at HI HP
 clear hS hk hlo hhi
 go_enter Tryz.func32,Tryz.ntmps32
 go_upto_region 1 with fail
 refine wp_region_held_drew (S:=(fun w'=>w'.cell? ⟨w.heap.size,4,none⟩=some (.slice az l.length cz))) (by kernel_rfl) ?_ (fun hHeld=>?_)
 ·simp [go_sem, *]
 refine tk 0 (some 9) (.pointer (some ⟨w.heap.size,4,none⟩)) ?_
 try simp only [pS]
 refine tk 1 (some 10) (.slice az l.length cz) ?_
 try simp only [pS]
 refine tk 2 (some 11) (.int .i64 (a:Int)) ?_
 try simp only [pS]
 refine tk 3 (some 12) (.int .i64 (b:Int)) ?_
 try simp only [pS]
 refine rd 4 (fun K hK=>?_)
 go_simp
 (refine(HP.out _).mono ?_;rintro e w1 ⟨rfl,hg1⟩;(try (with_reducible replace hg1:=Gr.of_drew hg1));have hsz1:=hg1.size;(try simp at hsz1);have hz1_0:w.heap.size<w1.heap.size:=(by omega);obtain ⟨hc1,hf1⟩:=hg1.cells;have HG1:=Lib.hid hg1;clear hg1)
 (try dsimp only)
 refine hK.out _ _ ?_ (fun hQ1=>?_)
 ·(first|exact trivial|((try dsimp only);simp [go_sem, *]))
 clear hK K hHeld
 try simp only [pS]
 refine rd 5 (fun K hK=>?_)
 go_simp
 (refine(HI.out _ (by(with_reducible (repeat' (first|exact Gr.refl _ _|refine Gr.drew ?_|refine Gr.setCell ?_ ?_ _|refine Gr.alloc ?_ ?_ _|refine Gr.trans ?_ (Gr.mono HG1.out ?_)|omega|(simp;done)|(simp;omega)))))).mono ?_;rintro e w2 ⟨rfl,hg2⟩;(try (with_reducible replace hg2:=Gr.of_drew hg2));have hsz2:=hg2.size;(try simp at hsz2);have hz2_0:w.heap.size<w2.heap.size:=(by omega);obtain ⟨hc2,hf2⟩:=hg2.cells;have HG2:=Lib.hid hg2;clear hg2)
 (try dsimp only)
 refine hK.out _ _ ?_ (fun hQ2=>?_)
 ·(first|exact trivial|((try dsimp only);simp [go_sem, *]))
 clear hK K hQ1
 try simp only [pS]
 refine rd 6 (fun K hK=>?_)
 go_simp
 (try dsimp only)
 refine hK.out _ _ ?_ (fun hQ3=>?_)
 ·(first|exact trivial|((try dsimp only);simp [go_sem, *]))
 clear hK K hQ2
 try simp only [pS]
 refine wpAnyH_done (by kernel_rfl) ?_ _
 go_wp2
 go_ret2
 exact⟨rfl,by(with_reducible (repeat' (first|exact Gr.refl _ _|refine Gr.drew ?_|refine Gr.setCell ?_ ?_ _|refine Gr.alloc ?_ ?_ _|refine Gr.trans ?_ (Gr.mono HG2.out ?_)|refine Gr.trans ?_ (Gr.mono HG1.out ?_)|omega|(simp;done)|(simp;omega))))⟩
set_option maxRecDepth 20000 in
set_option maxHeartbeats 8000000 in
theorem side_raw (o n m:Nat) (x y:Value) (az:Option Addr) (cz:Nat) (a b k r lo hi:Nat) (w:World) (ho:o=1∨o=2) (hm:m≤1000000) (hn:n≤1000000) (hmn:o=2→m≤n) (hkm:k<m) (hr:r=n - m+k)
  (hP:∀W,Calls Tryz.prog 18 #[.int .i64 (a:Int),.int .i64 (b:Int)] W (Ret W (.agg #[.int .i64 (lo:Int),.int .i64 (hi:Int)])))
  (hI:∀W,Gr w.heap.size w W→Calls Tryz.prog 59 #[.slice az m cz,.agg #[.int .i64 (lo:Int),.int .i64 (hi:Int)]] W (Ret W (.int .i64 (k:Int)))):
  Calls Tryz.prog 32 #[tabV o n x y (.slice az m cz),.int .i64 (a:Int),.int .i64 (b:Int)] w (fun e w'=> ∃v,e= .returned (.tuple #[v,.int .i64 0])∧IR w' w.heap.size v ([a,b]++if o=2 then [r]else [])∧Gr w.heap.size w w'):=by
 have HP:=Lib.hid hP
 have HI:=Lib.hid hI
 clear hP hI
 have HR:=Lib.hid hr
 have hk0:¬(k:Int)<0:=by omega
 clear hr
 rcases ho with rfl|rfl
 ·clear hmn
  go_enter Tryz.func32,Tryz.ntmps32
  go_upto_region 1 with fail
  refine wp_region_held_drew (S:=(fun w'=>w'.cell? ⟨w.heap.size,4,none⟩=some (.slice az m cz))) (by kernel_rfl) ?_ (fun hHeld=>?_)
  ·simp [go_sem, *]
  refine tk 0 (some 9) (.pointer (some ⟨w.heap.size,4,none⟩)) ?_
  try simp only [pS]
  refine tk 1 (some 10) (.slice az m cz) ?_
  try simp only [pS]
  refine tk 2 (some 11) (.int .i64 (a:Int)) ?_
  try simp only [pS]
  refine tk 3 (some 12) (.int .i64 (b:Int)) ?_
  try simp only [pS]
  refine rd 4 (fun K hK=>?_)
  go_simp
  (refine(HP.out _).mono ?_;rintro e w1 ⟨rfl,hg1⟩;(try (with_reducible replace hg1:=Gr.of_drew hg1));have hsz1:=hg1.size;(try simp at hsz1);have hz1_0:w.heap.size<w1.heap.size:=(by omega);obtain ⟨hc1,hf1⟩:=hg1.cells;have HG1:=Lib.hid hg1;clear hg1)
  (try dsimp only)
  refine hK.out _ _ ?_ (fun hQ1=>?_)
  ·(first|exact trivial|((try dsimp only);simp [go_sem, *]))
  clear hK K hHeld
  try simp only [pS]
  refine rd 5 (fun K hK=>?_)
  go_simp
  (refine(HI.out _ (by(with_reducible (repeat' (first|exact Gr.refl _ _|refine Gr.drew ?_|refine Gr.setCell ?_ ?_ _|refine Gr.alloc ?_ ?_ _|refine Gr.trans ?_ (Gr.mono HG1.out ?_)|omega|(simp;done)|(simp;omega)))))).mono ?_;rintro e w2 ⟨rfl,hg2⟩;(try (with_reducible replace hg2:=Gr.of_drew hg2));have hsz2:=hg2.size;(try simp at hsz2);have hz2_0:w.heap.size<w2.heap.size:=(by omega);obtain ⟨hc2,hf2⟩:=hg2.cells;have HG2:=Lib.hid hg2;clear hg2)
  (try dsimp only)
  refine hK.out _ _ ?_ (fun hQ2=>?_)
  ·(first|exact trivial|((try dsimp only);simp [go_sem, *]))
  clear hK K hQ1
  try simp only [pS]
  refine rd 6 (fun K hK=>?_)
  go_simp
  (try dsimp only)
  refine hK.out _ _ ?_ (fun hQ3=>?_)
  ·(first|exact trivial|((try dsimp only);simp [go_sem, *]))
  clear hK K hQ2
  try simp only [pS]
  refine wpAnyH_done (by kernel_rfl) ?_ _
  go_wp2
  go_ret2
  exact⟨_,rfl,⟨(SL.new' (l:= [a,b]) iC_len _ rfl rfl (by have:=HG1.out.size;have:=HG2.out.size;simp at *;omega) (by simp [maxLen]) rfl).sr,_,rfl⟩,by(with_reducible (repeat' (first|exact Gr.refl _ _|refine Gr.drew ?_|refine Gr.setCell ?_ ?_ _|refine Gr.alloc ?_ ?_ _|refine Gr.trans ?_ (Gr.mono HG2.out ?_)|refine Gr.trans ?_ (Gr.mono HG1.out ?_)|omega|(simp;done)|(simp;omega))))⟩
 ·replace hmn:=hmn rfl
  have hr:=HR.out
  have q1:(n:Int) - (m:Int)=((n - m:Nat):Int):=by omega
  have q2:IntKind.i64.wrap ((n:Int) - (m:Int))=((n - m:Nat):Int):=by rw [wrap64_id (by omega) (by omega)];omega
  have q3:IntKind.i64.wrap (((n - m:Nat):Int)+(k:Int))=(r:Int):=by rw [wrap64_id (by omega) (by omega)];omega
  clear hr
  go_enter Tryz.func32,Tryz.ntmps32
  go_upto_region 1 with fail
  refine wp_region_held_drew (S:=(fun w'=>w'.cell? ⟨w.heap.size,4,none⟩=some (.slice az m cz))) (by kernel_rfl) ?_ (fun hHeld=>?_)
  ·simp [go_sem, *]
  refine tk 0 (some 9) (.pointer (some ⟨w.heap.size,4,none⟩)) ?_
  try simp only [pS]
  refine tk 1 (some 10) (.slice az m cz) ?_
  try simp only [pS]
  refine tk 2 (some 11) (.int .i64 (a:Int)) ?_
  try simp only [pS]
  refine tk 3 (some 12) (.int .i64 (b:Int)) ?_
  try simp only [pS]
  refine rd 4 (fun K hK=>?_)
  go_simp
  (refine(HP.out _).mono ?_;rintro e w1 ⟨rfl,hg1⟩;(try (with_reducible replace hg1:=Gr.of_drew hg1));have hsz1:=hg1.size;(try simp at hsz1);have hz1_0:w.heap.size<w1.heap.size:=(by omega);obtain ⟨hc1,hf1⟩:=hg1.cells;have HG1:=Lib.hid hg1;clear hg1)
  (try dsimp only)
  refine hK.out _ _ ?_ (fun hQ1=>?_)
  ·(first|exact trivial|((try dsimp only);simp [go_sem, *]))
  clear hK K hHeld
  try simp only [pS]
  refine rd 5 (fun K hK=>?_)
  go_simp
  (refine(HI.out _ (by(with_reducible (repeat' (first|exact Gr.refl _ _|refine Gr.drew ?_|refine Gr.setCell ?_ ?_ _|refine Gr.alloc ?_ ?_ _|refine Gr.trans ?_ (Gr.mono HG1.out ?_)|omega|(simp;done)|(simp;omega)))))).mono ?_;rintro e w2 ⟨rfl,hg2⟩;(try (with_reducible replace hg2:=Gr.of_drew hg2));have hsz2:=hg2.size;(try simp at hsz2);have hz2_0:w.heap.size<w2.heap.size:=(by omega);obtain ⟨hc2,hf2⟩:=hg2.cells;have HG2:=Lib.hid hg2;clear hg2)
  (try dsimp only)
  refine hK.out _ _ ?_ (fun hQ2=>?_)
  ·(first|exact trivial|((try dsimp only);simp [go_sem, *]))
  clear hK K hQ1
  try simp only [pS]
  refine rd 6 (fun K hK=>?_)
  go_simp
  (try dsimp only)
  refine hK.out _ _ ?_ (fun hQ3=>?_)
  ·(first|exact trivial|((try dsimp only);simp [go_sem, *]))
  clear hK K hQ2
  try simp only [pS]
  refine wpAnyH_done (by kernel_rfl) ?_ _
  go_wp2
  go_ret2
  exact⟨_,rfl,⟨(SL.new' (l:= [a,b,r]) iC_len _ rfl rfl (by have:=HG1.out.size;have:=HG2.out.size;simp at *;omega) (by simp [maxLen]) rfl).sr,_,rfl⟩,by(with_reducible (repeat' (first|exact Gr.refl _ _|refine Gr.drew ?_|refine Gr.setCell ?_ ?_ _|refine Gr.alloc ?_ ?_ _|refine Gr.trans ?_ (Gr.mono HG2.out ?_)|refine Gr.trans ?_ (Gr.mono HG1.out ?_)|omega|(simp;done)|(simp;omega))))⟩
theorem df_Side (o n:Nat) (x y z:Value) (l:List (Int×Int)) (a b k:Nat) (w:World) (ho:o=1∨o=2) (hS:SR i2C 2 85 w 0 z l) (hl:l.length≤1000000) (hn:n≤1000000) (hln:o=2→l.length≤n) (hkl:k<l.length) (hk:pairNo l ((min a b:Nat):Int) ((max a b:Nat):Int)=(k:Int)):
  Calls Tryz.prog 32 #[tabV o n x y z,.int .i64 (a:Int),.int .i64 (b:Int)] w (fun e w'=> ∃v,e= .returned (.tuple #[v,.int .i64 0])∧IR w' w.heap.size v (sideL o n l.length a b k)∧Gr w.heap.size w w'):=by
 obtain ⟨az,cz,rfl⟩:=hS.at
 exact side_raw o n l.length x y az cz a b k _ _ _ w ho hl hn hln hkl rfl (fun W=>df_pair a b W) (fun W hW=>hk ▸ index_Pair l _ _ _ W (hS.gr hW) hl)
end Go.Proofs.YtjijceliboaeaaaGreatDoor
