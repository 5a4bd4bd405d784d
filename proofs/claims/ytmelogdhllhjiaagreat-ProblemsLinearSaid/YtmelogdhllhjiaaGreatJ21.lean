/-
  Part 21 of the proof: MeshE MeshF PolH.
-/
import Derived.Test.YtmelogdhllhjiaaGreatJ20
set_option linter.unusedSimpArgs false
set_option linter.unusedVariables false
namespace Go.Proofs.YtmelogdhllhjiaaGreat
open Go.RowKit Gus
structure Edg where
 a:Int
 b:Int
 l:Int
 r:Int
deriving DecidableEq
instance:Inhabited Edg:=⟨⟨0,0,0,0⟩⟩
abbrev eC (e:Edg):List Value:= [.int .i64 e.a,.int .i64 e.b,.int .i64 e.l,.int .i64 e.r]
abbrev eV (e:Edg):Value:= .agg (eC e).toArray
def ordE (x y:Edg):Int:=if Lib.compareInt x.a y.a=0 then Lib.compareInt x.b y.b else Lib.compareInt x.a y.a
set_option maxRecDepth 20000 in
set_option maxHeartbeats 8000000 in
theorem ordE_raw {a b l r' a' b' l' r'' c1 c2:Int} (h1:∀w,Calls Tryz.prog 88 #[.int .i64 a,.int .i64 a'] w (Ret w (.int .i64 c1))) (h2:∀w,Calls Tryz.prog 88 #[.int .i64 b,.int .i64 b'] w (Ret w (.int .i64 c2))) (w:World):
  Calls Tryz.prog 111 #[.agg #[.int .i64 a,.int .i64 b,.int .i64 l,.int .i64 r'],.agg #[.int .i64 a',.int .i64 b',.int .i64 l',.int .i64 r'']] w (Ret w (.int .i64 (if c1=0 then c2 else c1))):=by
 have h1:=Lib.hid h1
 have h2:=Lib.hid h2
 have HO:=Lib.hid (cmp_Or2 c1 c2)
 generalize (if c1=0 then c2 else c1)=r at *
 go_enter Tryz.func111,Tryz.ntmps111
 go_wp2_with fail
 refine wp_region_held_drew (S:=(fun w'=>w'.cell? ⟨w.heap.size,0,none⟩=some (.int .i64 a)∧w'.cell? ⟨w.heap.size,1,none⟩=some (.int .i64 b)∧w'.cell? ⟨w.heap.size+1,0,none⟩=some (.int .i64 a')∧w'.cell? ⟨w.heap.size+1,1,none⟩=some (.int .i64 b'))) (by kernel_rfl) ?_ (fun hHeld=>?_)
 ·simp [go_sem, *]
 refine tk 0 (some 5) (.pointer (some ⟨w.heap.size,0,none⟩)) ?_
 try simp only [pS]
 refine tk 1 (some 6) (.int .i64 a) ?_
 try simp only [pS]
 refine tk 2 (some 7) (.pointer (some ⟨w.heap.size+1,0,none⟩)) ?_
 try simp only [pS]
 refine tk 3 (some 8) (.int .i64 a') ?_
 try simp only [pS]
 refine tk 5 (some 10) (.pointer (some ⟨w.heap.size,1,none⟩)) ?_
 try simp only [pS]
 refine tk 6 (some 11) (.int .i64 b) ?_
 try simp only [pS]
 refine tk 7 (some 12) (.pointer (some ⟨w.heap.size+1,1,none⟩)) ?_
 try simp only [pS]
 refine tk 8 (some 13) (.int .i64 b') ?_
 try simp only [pS]
 refine rd 4 (fun K hK=>?_)
 go_simp
 (refine(h1.out _).mono ?_;rintro e w1 ⟨rfl,hg1⟩;(try (with_reducible replace hg1:=Gr.of_drew hg1));have hsz1:=hg1.size;(try simp at hsz1);have hz1_0:w.heap.size<w1.heap.size:=(by omega);have hz1_1:w.heap.size+1<w1.heap.size:=(by omega);obtain ⟨hc1,hf1⟩:=hg1.cells;have HG1:=Lib.hid hg1;clear hg1)
 (try dsimp only)
 refine hK.out _ _ ?_ (fun hQ1=>?_)
 ·(first|exact trivial|((try dsimp only);simp [go_sem, *]))
 clear hK K hHeld
 try simp only [pS]
 refine rd 9 (fun K hK=>?_)
 go_simp
 (refine(h2.out _).mono ?_;rintro e w2 ⟨rfl,hg2⟩;(try (with_reducible replace hg2:=Gr.of_drew hg2));have hsz2:=hg2.size;(try simp at hsz2);have hz2_0:w.heap.size<w2.heap.size:=(by omega);have hz2_1:w.heap.size+1<w2.heap.size:=(by omega);obtain ⟨hc2,hf2⟩:=hg2.cells;have HG2:=Lib.hid hg2;clear hg2)
 (try dsimp only)
 refine hK.out _ _ ?_ (fun hQ2=>?_)
 ·(first|exact trivial|((try dsimp only);simp [go_sem, *]))
 clear hK K hQ1
 try simp only [pS]
 refine rd 10 (fun K hK=>?_)
 go_simp
 (try dsimp only)
 refine hK.out _ _ ?_ (fun hQ3=>?_)
 ·(first|exact trivial|((try dsimp only);simp [go_sem, *]))
 clear hK K hQ2
 try simp only [pS]
 refine rd 11 (fun K hK=>?_)
 go_simp
 (refine(HO.out _ _ _ (by simp [go_sem]) (by simp [go_sem]) (by simp)).mono ?_;rintro e w3 ⟨rfl,hg3⟩;(try (with_reducible replace hg3:=Gr.of_drew hg3));have hsz3:=hg3.size;(try simp at hsz3);have hz3_0:w.heap.size<w3.heap.size:=(by omega);have hz3_1:w.heap.size+1<w3.heap.size:=(by omega);obtain ⟨hc3,hf3⟩:=hg3.cells;have HG3:=Lib.hid hg3;clear hg3)
 (try dsimp only)
 refine hK.out _ _ ?_ (fun hQ4=>?_)
 ·(first|exact trivial|((try dsimp only);simp [go_sem, *]))
 clear hK K hQ3
 try simp only [pS]
 refine tk 12 (some 4) (.int .i64 r) ?_
 try simp only [pS]
 refine wpAnyH_done (by kernel_rfl) ?_ _
 go_wp2
 go_ret
 exact⟨rfl,by(with_reducible (repeat' (first|exact Gr.refl _ _|refine Gr.drew ?_|refine Gr.setCell ?_ ?_ _|refine Gr.alloc ?_ ?_ _|refine Gr.trans ?_ (Gr.mono HG3.out ?_)|refine Gr.trans ?_ (Gr.mono HG2.out ?_)|refine Gr.trans ?_ (Gr.mono HG1.out ?_)|omega|(simp;done)|(simp;omega))))⟩
theorem ms_ordE (x y:Edg) (w:World):Calls Tryz.prog 111 #[eV x,eV y] w (Ret w (.int .i64 (ordE x y))):=ordE_raw (fun w=>cmp_Cmp x.a y.a w) (fun w=>cmp_Cmp x.b y.b w) w
set_option maxRecDepth 20000 in
set_option maxHeartbeats 8000000 in
theorem rimmed1_raw {a b l l':Int} (w:World):Calls Tryz.prog 171 #[.agg #[.int .i64 a,.int .i64 b,.int .i64 l],.agg #[.int .i64 a,.int .i64 b,.int .i64 l']] w (Ret w (.bool true)):=by
 have e1:∀x:Int,(x == x)=true:=fun x=>by simp
 go_enter Tryz.func171,Tryz.ntmps171
 go_wp2
 go_ret
 exact⟨by simp,by(with_reducible (repeat' (first|exact Gr.refl _ _|refine Gr.drew ?_|refine Gr.setCell ?_ ?_ _|refine Gr.alloc ?_ ?_ _|omega|(simp;done)|(simp;omega))))⟩
set_option maxRecDepth 20000 in
set_option maxHeartbeats 8000000 in
theorem same_Side (l m:List Tri) (v u:Value) (w:World) (hS:SR triC 3 87 w 0 v l) (hU:SR triC 3 87 w 0 u m) (hlm:l.map (fun t=>(t.1,t.2.1))=m.map (fun t=>(t.1,t.2.1))):Calls Tryz.prog 170 #[v,u,.func (.func 171) #[] #[]] w (Ret w (.bool true)):=by
 obtain ⟨a,ca,rfl⟩:=hS.at
 obtain ⟨b,cb,rfl⟩:=hU.at
 have hl:=hS.len
 have hl2:(l.length:Int)≤9223372036854775807:=by simp only [maxLen]at hl;omega
 have hlen:l.length=m.length:=by have:=congrArg List.length hlm;simpa using this
 have HS:=Lib.hid hS
 have HU:=Lib.hid hU
 have HLM:=Lib.hid hlm
 have HLEN:=Lib.hid hlen
 rw [←hlen]
 clear hS hU hl hlm hlen
 go_enter Tryz.func170,Tryz.ntmps170
 go_wp2
 go_loopw [15] (fun s wr=> ∃n:Nat,s= .int .i64 n∧n≤l.length∧Gr w.heap.size w wr) (fun s _=>l.length - (intOf s).toNat)
 case atStart=>exact⟨0,rfl,Nat.zero_le _,Gr.refl _ _⟩
 case round=>
  obtain ⟨n,rfl,hn,hgr⟩:=hrel
  by_cases hlt:n<l.length
  ·obtain ⟨t,ht⟩:∃t,l[n]=t:=⟨_,rfl⟩
   have hltm:n<m.length:=HLEN.out ▸ hlt
   obtain ⟨s,hs⟩:∃s,m[n]=s:=⟨_,rfl⟩
   have hts:t.1=s.1∧t.2.1=s.2.1:=by
    have h:=congrArg (fun x=>x[n]?) HLM.out
    simp only [List.getElem?_map,List.getElem?_eq_getElem hlt,List.getElem?_eq_getElem hltm,Option.map_some,ht,hs,Option.some.injEq,Prod.mk.injEq]at h
    exact h
   obtain ⟨g,cap',e1,_,_,_,hsh,hR⟩:=(HS.out.gr hgr).block (by intro e;rw [e]at hlt;simp at hlt)
   injection e1 with e1 _ e2
   subst e1 e2
   obtain ⟨g',cap'',e1,_,_,_,hsh',hR'⟩:=(HU.out.gr hgr).block (by intro e;rw [e]at hltm;simp at hltm)
   injection e1 with e1 _ e2
   subst e1 e2
   obtain ⟨v0,v1,v2⟩:=hR.fTri hlt ht
   obtain ⟨u0,u1,u2⟩:=hR'.fTri hltm hs
   rw [←hts.1]at u0
   rw [←hts.2]at u1
   have HC:=Lib.hid (fun w=>rimmed1_raw (a:=(t.1:Int)) (b:=(t.2.1:Int)) (l:=(t.2.2:Int)) (l':=(s.2.2:Int)) w)
   have HG:=Lib.hid hgr
   have hszr:=hgr.size
   have hgl:=hsh.lt
   have hgl':=hsh'.lt
   clear hgr hR hsh hR' hsh' ht hs hts
   have q1:(n:Int)<(l.length:Int):=by omega
   go_wp2
   refine wp_region_held_drew (S:=(fun w'=>w'.cell? ⟨g,n*3,none⟩=some (.int .i64 (t.1:Int))∧w'.cell? ⟨g,n*3+1,none⟩=some (.int .i64 (t.2.1:Int))∧w'.cell? ⟨g,n*3+2,none⟩=some (.int .i64 (t.2.2:Int))∧w'.cell? ⟨g',n*3,none⟩=some (.int .i64 (t.1:Int))∧w'.cell? ⟨g',n*3+1,none⟩=some (.int .i64 (t.2.1:Int))∧w'.cell? ⟨g',n*3+2,none⟩=some (.int .i64 (s.2.2:Int)))) (by kernel_rfl) ?_ (fun hHeld=>?_)
   ·simp [go_sem, *]
   refine tk 0 (some 18) (.func (.func 171) #[] #[]) ?_
   try simp only [pS]
   refine tk 1 (some 19) (.slice (some ⟨g,0,none⟩) l.length ca) ?_
   try simp only [pS]
   refine tk 2 (some 20) (.int .i64 (n:Int)) ?_
   try simp only [pS]
   refine tk 3 (some 21) (.pointer (some ⟨g,n*3,none⟩)) ?_
   try simp only [pS]
   refine tk 4 (some 22) (.agg #[.int .i64 (t.1:Int),.int .i64 (t.2.1:Int),.int .i64 (t.2.2:Int)]) ?_
   try simp only [pS]
   refine tk 5 (some 23) (.slice (some ⟨g',0,none⟩) l.length cb) ?_
   try simp only [pS]
   refine tk 6 (some 24) (.int .i64 (n:Int)) ?_
   try simp only [pS]
   refine tk 7 (some 25) (.pointer (some ⟨g',n*3,none⟩)) ?_
   try simp only [pS]
   refine tk 8 (some 26) (.agg #[.int .i64 (t.1:Int),.int .i64 (t.2.1:Int),.int .i64 (s.2.2:Int)]) ?_
   try simp only [pS]
   refine rd 9 (fun K hK=>?_)
   go_simp
   (refine(HC.out _).mono ?_;rintro e w1 ⟨rfl,hg1⟩;(try (with_reducible replace hg1:=Gr.of_drew hg1));have hsz1:=hg1.size;(try simp at hsz1);have hy1_0:g<w1.heap.size:=(by omega);have hy1_1:g'<w1.heap.size:=(by omega);obtain ⟨hc1,hf1⟩:=hg1.cells;have HG1:=Lib.hid hg1;clear hg1)
   (try dsimp only)
   refine hK.out _ _ ?_ (fun hQ1=>?_)
   ·(first|exact trivial|((try dsimp only);simp [go_sem, *]))
   clear hK K hHeld
   try simp only [pS]
   refine tk 10 (some 28) (.bool false) ?_
   try simp only [pS]
   refine wpAnyH_done (by kernel_rfl) ?_ _
   go_wp2
   go_roundw
   case rel=>exact⟨n+1,by go_num,by omega,by(with_reducible (repeat' (first|exact Gr.refl _ _|refine Gr.drew ?_|refine Gr.setCell ?_ ?_ _|refine Gr.alloc ?_ ?_ _|refine Gr.trans ?_ (Gr.mono HG1.out ?_)|refine Gr.trans ?_ (Gr.mono HG.out ?_)|omega|(simp;done)|(simp;omega))))⟩
   case measure=>simp [intOf];omega
  ·obtain rfl:n=l.length:=by omega
   go_wp2
   go_ret
   exact⟨rfl,hgr⟩
end Go.Proofs.YtmelogdhllhjiaaGreat
namespace Go.Proofs.YtmelogdhllhjiaaGreat
open Go.RowKit Gus
theorem VB.ten {w:World} {g:Nat} {p:Pt} (h:VB w g (pC p)):w.cell? ⟨g,0,none⟩=some (.int .u64 (lowN (sz p.x.num)))∧w.cell? ⟨g,1,none⟩=some (.string (bigS (sz p.x.num)))∧w.cell? ⟨g,2,none⟩=some (.bool (ng p.x.num))∧w.cell? ⟨g,3,none⟩=some (.int .u64 (lowN (fm p.x)))∧w.cell? ⟨g,4,none⟩=some (.string (bigS (fm p.x)))∧
  w.cell? ⟨g,5,none⟩=some (.int .u64 (lowN (sz p.y.num)))∧w.cell? ⟨g,6,none⟩=some (.string (bigS (sz p.y.num)))∧w.cell? ⟨g,7,none⟩=some (.bool (ng p.y.num))∧w.cell? ⟨g,8,none⟩=some (.int .u64 (lowN (fm p.y)))∧w.cell? ⟨g,9,none⟩=some (.string (bigS (fm p.y))):=
 ⟨h.c 0 _ rfl,h.c 1 _ rfl,h.c 2 _ rfl,h.c 3 _ rfl,h.c 4 _ rfl,h.c 5 _ rfl,h.c 6 _ rfl,h.c 7 _ rfl,h.c 8 _ rfl,h.c 9 _ rfl⟩
set_option maxRecDepth 20000 in
set_option maxHeartbeats 4000000 in
theorem beyond1_raw {p q r:Pt} {s:Int} (gp gq:Nat) (w:World) (hP:VB w gp (pC p)) (hQ:VB w gq (pC q)) (hT:∀w,Calls Tryz.prog 162 #[pV p,pV q,pV r] w (Ret w (.int .i64 s))):
  Calls Tryz.prog 192 #[pV r,.pointer (some ⟨gp,0,none⟩),.pointer (some ⟨gq,0,none⟩)] w (Ret w (.bool (decide (0<s)))):=by
 have hT:=Lib.hid hT
 have h1:=hP.lt
 have h2:=hQ.lt
 obtain ⟨a0,a1,a2,a3,a4,a5,a6,a7,a8,a9⟩:=hP.ten
 obtain ⟨b0,b1,b2,b3,b4,b5,b6,b7,b8,b9⟩:=hQ.ten
 clear hP hQ
 go_enter Tryz.func192,Tryz.ntmps192
 go_wp2_with fail
 (refine(hT.out _).mono ?_;rintro e w1 ⟨rfl,hg1⟩;(try (with_reducible replace hg1:=Gr.of_drew hg1));have hsz1:=hg1.size;(try simp at hsz1);have hz1_0:w.heap.size<w1.heap.size:=(by omega);obtain ⟨hc1,hf1⟩:=hg1.cells;have HG1:=Lib.hid hg1;clear hg1)
 go_wp2
 go_ret
 exact⟨by simp,by(with_reducible (repeat' (first|exact Gr.refl _ _|refine Gr.drew ?_|refine Gr.setCell ?_ ?_ _|refine Gr.alloc ?_ ?_ _|refine Gr.trans ?_ (Gr.mono HG1.out ?_)|omega|(simp;done)|(simp;omega))))⟩
theorem ms_beyond1 (p q r:Pt) (gp gq:Nat) (w:World) (hP:VB w gp (pC p)) (hQ:VB w gq (pC q)) (h1:hp p≤1000000000) (h2:hp q≤1000000000) (h3:hp r≤1000000000):
  Calls Tryz.prog 192 #[pV r,.pointer (some ⟨gp,0,none⟩),.pointer (some ⟨gq,0,none⟩)] w (Ret w (.bool (decide (0<turn p q r)))):=
 beyond1_raw gp gq w hP hQ fun w=>pt_Turn p q r w h1 h2 h3
def ordP (a b:Pt):Int:=if lessP a b then -1 else if lessP b a then 1 else 0
set_option maxRecDepth 20000 in
set_option maxHeartbeats 4000000 in
theorem once1_raw {a b:Pt} {u v:Bool} (h1:∀w,Calls Tryz.prog 165 #[pV a,pV b] w (Ret w (.bool u))) (h2:∀w,Calls Tryz.prog 165 #[pV b,pV a] w (Ret w (.bool v))) (w:World):
  Calls Tryz.prog 164 #[pV a,pV b] w (Ret w (.int .i64 (if u then -1 else if v then 1 else 0))):=by
 have h1:=Lib.hid h1
 have h2:=Lib.hid h2
 cases u
 ·cases v
  ·go_enter Tryz.func164,Tryz.ntmps164
   go_wp2_with fail
   (refine(h1.out _).mono ?_;rintro e w1 ⟨rfl,hg1⟩;(try (with_reducible replace hg1:=Gr.of_drew hg1));have hsz1:=hg1.size;(try simp at hsz1);have hz1_0:w.heap.size<w1.heap.size:=(by omega);have hz1_1:w.heap.size+1<w1.heap.size:=(by omega);obtain ⟨hc1,hf1⟩:=hg1.cells;have HG1:=Lib.hid hg1;clear hg1)
   go_wp2_with fail
   (refine(h2.out _).mono ?_;rintro e w2 ⟨rfl,hg2⟩;(try (with_reducible replace hg2:=Gr.of_drew hg2));have hsz2:=hg2.size;(try simp at hsz2);have hz2_0:w.heap.size<w2.heap.size:=(by omega);have hz2_1:w.heap.size+1<w2.heap.size:=(by omega);obtain ⟨hc2,hf2⟩:=hg2.cells;have HG2:=Lib.hid hg2;clear hg2)
   go_wp2
   go_ret
   exact⟨rfl,by(with_reducible (repeat' (first|exact Gr.refl _ _|refine Gr.drew ?_|refine Gr.setCell ?_ ?_ _|refine Gr.alloc ?_ ?_ _|refine Gr.trans ?_ (Gr.mono HG2.out ?_)|refine Gr.trans ?_ (Gr.mono HG1.out ?_)|omega|(simp;done)|(simp;omega))))⟩
  ·go_enter Tryz.func164,Tryz.ntmps164
   go_wp2_with fail
   (refine(h1.out _).mono ?_;rintro e w1 ⟨rfl,hg1⟩;(try (with_reducible replace hg1:=Gr.of_drew hg1));have hsz1:=hg1.size;(try simp at hsz1);have hz1_0:w.heap.size<w1.heap.size:=(by omega);have hz1_1:w.heap.size+1<w1.heap.size:=(by omega);obtain ⟨hc1,hf1⟩:=hg1.cells;have HG1:=Lib.hid hg1;clear hg1)
   go_wp2_with fail
   (refine(h2.out _).mono ?_;rintro e w2 ⟨rfl,hg2⟩;(try (with_reducible replace hg2:=Gr.of_drew hg2));have hsz2:=hg2.size;(try simp at hsz2);have hz2_0:w.heap.size<w2.heap.size:=(by omega);have hz2_1:w.heap.size+1<w2.heap.size:=(by omega);obtain ⟨hc2,hf2⟩:=hg2.cells;have HG2:=Lib.hid hg2;clear hg2)
   go_wp2
   go_ret
   exact⟨rfl,by(with_reducible (repeat' (first|exact Gr.refl _ _|refine Gr.drew ?_|refine Gr.setCell ?_ ?_ _|refine Gr.alloc ?_ ?_ _|refine Gr.trans ?_ (Gr.mono HG2.out ?_)|refine Gr.trans ?_ (Gr.mono HG1.out ?_)|omega|(simp;done)|(simp;omega))))⟩
 ·go_enter Tryz.func164,Tryz.ntmps164
  go_wp2_with fail
  (refine(h1.out _).mono ?_;rintro e w1 ⟨rfl,hg1⟩;(try (with_reducible replace hg1:=Gr.of_drew hg1));have hsz1:=hg1.size;(try simp at hsz1);have hz1_0:w.heap.size<w1.heap.size:=(by omega);have hz1_1:w.heap.size+1<w1.heap.size:=(by omega);obtain ⟨hc1,hf1⟩:=hg1.cells;have HG1:=Lib.hid hg1;clear hg1)
  go_wp2
  go_ret
  exact⟨rfl,by(with_reducible (repeat' (first|exact Gr.refl _ _|refine Gr.drew ?_|refine Gr.setCell ?_ ?_ _|refine Gr.alloc ?_ ?_ _|refine Gr.trans ?_ (Gr.mono HG1.out ?_)|omega|(simp;done)|(simp;omega))))⟩
theorem ms_once1 (a b:Pt) (w:World) (h1:hp a≤10000000000) (h2:hp b≤10000000000):Calls Tryz.prog 164 #[pV a,pV b] w (Ret w (.int .i64 (ordP a b))):=
 once1_raw (fun w=>pt_Less a b w h1 h2) (fun w=>pt_Less b a w h2 h1) w
end Go.Proofs.YtmelogdhllhjiaaGreat
namespace Go.Proofs.YtmelogdhllhjiaaGreat
open Go.RowKit Gus Go.Maps
def Turns (F:FuncId) (cb:Array Value) (f:T→T) (l:List T) (w:World):Prop:=
 (∀args w,(callFunc F args).run Tryz.prog w= .ok (.enter F args) w)∧∀W,Gr w.heap.size w W→∀t∈l,Calls Tryz.prog F (#[tV t]++cb) W (Ret W (tV (f t)))
set_option maxRecDepth 20000 in
set_option maxHeartbeats 4000000 in
theorem po_each {F:FuncId} {cb:Array Value} {f:T→T} (l:List T) (v:Value) (w:World) (hS:PL w 0 v l) (hok:∀t∈l,t.ok) (ht:tot l≤100000000000) (hf:Turns F cb f (gat l) w) (hfok:∀t∈gat l,(f t).ok) (hft:tot ((gat l).map f)≤100000000000):
  Calls Tryz.prog 23 #[v,.func (.func F) #[] cb] w (RetP w (gat ((gat l).map f))):=by
 obtain ⟨eg,hf⟩:=hf
 have hB1:=Lib.hid (po_brought l v w hS hok ht)
 have HF:=Lib.hid (And.intro hf (And.intro hfok hft))
 have hlen:(gat l).length≤100000000000:=by
  have h1:=tot_len (gat l);have h3:=tot_gat l
  omega
 obtain ⟨i0,hi,hz0,hz1,hz2⟩:=info_parts info_T
 have HI:=Lib.hid (And.intro hi (And.intro hz0 (And.intro hz1 hz2)))
 clear hS hok ht hf hfok hft hi hz0 hz1 hz2
 generalize gat l=gl at *
 go_enter Tryz.func23,Tryz.ntmps23
 go_wp2_with fail
 refine hB1.out.mono ?_
 rintro e w2 ⟨v2,rfl,hS2,hg2⟩
 obtain ⟨a2,c2,rfl⟩:=hS2.at
 have HS2:=Lib.hid hS2
 have HG2:=Lib.hid hg2
 have hsz2:=hg2.size
 clear hS2 hg2
 go_wp2
 go_loopw [5,11] (fun p s wr=> ∃n:Nat,s= .int .i64 n∧n≤gl.length∧Hid (PL wr w2.heap.size p ((gl.take n).map f))∧Hid (Gr w2.heap.size w2 wr)) (fun _ s _=>gl.length - (intOf s).toNat)
 case atStart=>exact⟨0,rfl,Nat.zero_le _,SL.nil,Gr.refl _ _⟩
 case round=>
  obtain ⟨n,rfl,hn,HP,HG⟩:=hrel
  have hszr:=HG.out.size
  by_cases hlt:n<gl.length
  ·obtain ⟨t,ht⟩:∃t,gl[n]=t:=⟨_,rfl⟩
   obtain ⟨g,cap',e1,_,_,_,hsh,hR⟩:=(HS2.out.gr HG.out).block (by intro e;rw [e]at hlt;simp at hlt)
   injection e1 with e1 _ e2
   subst e1 e2
   obtain ⟨v0,v1,v2,v3,v4,v5,v6⟩:=hR.term hlt ht
   have hmem:t∈gl:=ht ▸ List.getElem_mem hlt
   have hglt:=hsh.lt
   have hgr0:Gr w.heap.size w wr:=HG2.out.trans (HG.out.mono hsz2)
   have HG0:=Lib.hid hgr0
   have HT:=Lib.hid ht
   obtain ⟨y,HY⟩:∃y,Hid (f t=y):=⟨f t,Lib.hid rfl⟩
   have hcall:∀W,Gr w.heap.size w W→Calls Tryz.prog F (#[tV t]++cb) W (Ret W (tV y)):=fun W hW=>HY.out ▸ HF.out.1 W hW t hmem
   have HC:=Lib.hid hcall
   have hpl:((gl.take n).map f).length≤100000000000:=by simp;omega
   obtain ⟨acc,hacc⟩:∃acc,(gl.take n).map f=acc:=⟨_,rfl⟩
   rw [hacc]at HP hpl
   have HACC:=Lib.hid hacc
   clear hacc
   obtain ⟨pa,pc,rfl⟩:=HP.out.at
   clear hR hsh ht hgr0 hcall hmem
   go_wp2_with (first
    | (go_at_fn F;refine(HC.out _ (HG0.out.trans (by(with_reducible (repeat' (first|exact Gr.refl _ _|refine Gr.drew ?_|refine Gr.setCell ?_ ?_ _|refine Gr.alloc ?_ ?_ _|omega|(simp;done)|(simp;omega))))))).mono ?_;rintro e w3 ⟨rfl,hg3⟩;have hsz3:=hg3.size;(try simp at hsz3);have HG3:=Lib.hid hg3;clear hg3)
    | (at_builtin;refine wpList_appS _ rfl _ _ 40 rfl w2.heap.size i0 _ 72 Tryz.underlying40 HI.out.1 HI.out.2.1 HI.out.2.2.1 HI.out.2.2.2 rfl (by decide) tC_len tC_one _ acc rfl (HP.out.gr (by(with_reducible (repeat' (first|exact Gr.refl _ _|refine Gr.drew ?_|refine Gr.setCell ?_ ?_ _|refine Gr.alloc ?_ ?_ _|refine Gr.trans ?_ (Gr.mono HG3.out ?_)|omega|(simp;done)|(simp;omega)))))) w3.heap.size _ [y] 1 rfl rfl (RC.new1 rfl) (by unfold maxLen;simp;omega) (by simp;omega) (by simp;omega) ?_;intro v' w4 hS4 hkp4 _;have HS4:=Lib.hid (And.intro hS4 hkp4);clear hS4 hkp4))
   go_roundw
   case rel=>
    have hgr3:Gr w2.heap.size wr w4:=(show Gr w2.heap.size wr _ from by(with_reducible (repeat' (first|exact Gr.refl _ _|refine Gr.drew ?_|refine Gr.setCell ?_ ?_ _|refine Gr.alloc ?_ ?_ _|refine Gr.trans ?_ (Gr.mono HG3.out ?_)|omega|(simp;done)|(simp;omega))))).trans (HS4.out.2.gr (fun b e=>HP.out.own_ge e) (by simp;omega))
    refine⟨n+1,by go_num,by omega,?_,HG.out.trans hgr3⟩
    show PL _ _ _ _
    rw [List.take_succ_eq_append_getElem hlt,List.map_append,HT.out]
    simp only [List.map_cons,List.map_nil,HY.out,HACC.out]
    exact HS4.out.1
   case measure=>simp [intOf];omega
  ·obtain rfl:n=gl.length:=by omega
   have hgr0:Gr w.heap.size w wr:=HG2.out.trans (HG.out.mono hsz2)
   have hP:=Lib.hid (po_gathered (gl.map f) u5 wr (by have h:=HP.out;rw [List.take_length]at h;exact h.mono (Nat.zero_le _)) (by
    intro t ht
    obtain ⟨x,hx,rfl⟩:=List.mem_map.1 ht
    exact HF.out.2.1 x hx) HF.out.2.2)
   have HG0:=Lib.hid hgr0
   clear hgr0
   go_wp2_with (go_at_call 29;refine hP.out.mono ?_;rintro e w4 ⟨v4,rfl,hS4,hg4⟩;have HS4:=Lib.hid (And.intro hS4 hg4);clear hS4 hg4)
   go_ret
   have hsz0:=HG0.out.size
   exact⟨_,rfl,HS4.out.1.mono hsz0,HG0.out.trans (HS4.out.2.mono hsz0)⟩
set_option maxRecDepth 20000 in
set_option maxHeartbeats 4000000 in
theorem PScale_raw {k:Rat} {r:List T} (v:Value) (w:World) (hE:∀W g,VB W g (fracC k)→Gr w.heap.size w W→g<W.heap.size→Calls Tryz.prog 23 #[v,.func (.func 24) #[] #[.pointer (some ⟨g,0,none⟩)]] W (RetP W r)):Calls Tryz.prog 7 #[v,fracV k] w (RetP w r):=by
 have hE:=Lib.hid hE
 go_enter Tryz.func7,Tryz.ntmps7
 go_wp2_with fail
 refine(hE.out _ w.heap.size (VB.new w (fracC k) _) (by(with_reducible (repeat' (first|exact Gr.refl _ _|refine Gr.drew ?_|refine Gr.setCell ?_ ?_ _|refine Gr.alloc ?_ ?_ _|omega|(simp;done)|(simp;omega))))) (by simp)).mono ?_
 rintro e w2 ⟨v2,rfl,hS3,hg3⟩
 have HS3:=Lib.hid hS3
 have HG3:=Lib.hid hg3
 have hsz:=hg3.size
 (try simp at hsz)
 clear hS3 hg3
 go_wp2
 go_ret
 exact⟨_,rfl,HS3.out.mono (by simp),by(with_reducible (repeat' (first|exact Gr.refl _ _|refine Gr.drew ?_|refine Gr.setCell ?_ ?_ _|refine Gr.alloc ?_ ?_ _|refine Gr.trans ?_ (Gr.mono HG3.out ?_)|omega|(simp;done)|(simp;omega))))⟩
theorem tot_scale (k:Rat):∀l:List T,tot (l.map (T.scale k))≤tot l+l.length*hw k
 | []=>by simp [tot]
 | t :: r=>by
  have h:=tot_scale k r
  have h2:=hw_mul k t.c
  simp only [List.map_cons,tot,List.length_cons,Nat.add_mul,T.scale]at *
  omega
theorem hw_nat {i:Nat} (h:i≤12):hw ((i:Int):Rat)≤2:=hw_int i (by omega) (by omega)
theorem tot_dx:∀l:List T,(∀t∈l,t.ok)→tot (l.map T.dx)≤tot l+l.length*2
 | [],_=>by simp [tot]
 | t :: r,h=>by
  have h1:=tot_dx r fun x hx=>h x (List.mem_cons_of_mem _ hx)
  have h0:=h t List.mem_cons_self
  unfold T.ok at h0
  have h2:=hw_mul t.c ((t.i:Int):Rat)
  have h3:=hw_nat (i:=t.i) (by omega)
  simp only [List.map_cons,tot,List.length_cons,Nat.add_mul,T.dx]at *
  omega
theorem tot_dy:∀l:List T,(∀t∈l,t.ok)→tot (l.map T.dy)≤tot l+l.length*2
 | [],_=>by simp [tot]
 | t :: r,h=>by
  have h1:=tot_dy r fun x hx=>h x (List.mem_cons_of_mem _ hx)
  have h0:=h t List.mem_cons_self
  unfold T.ok at h0
  have h2:=hw_mul t.c ((t.j:Int):Rat)
  have h3:=hw_nat (i:=t.j) (by omega)
  simp only [List.map_cons,tot,List.length_cons,Nat.add_mul,T.dy]at *
  omega
theorem po_Scale (k:Rat) (l:List T) (v:Value) (w:World) (hS:PL w 0 v l) (hok:∀t∈l,t.ok) (ht:tot l*(hw k+2)≤100000000000):Calls Tryz.prog 7 #[v,fracV k] w (RetP w (gat ((gat l).map (T.scale k)))):=by
 have h0:tot l≤100000000000:=by have:=Nat.le_mul_of_pos_right (tot l) (show 0<hw k+2 by omega);omega
 refine PScale_raw v w fun W g hV hg hlt=>?_
 refine po_each l v W (hS.gr hg) hok h0 ⟨enters_of Tryz.func24 (by kernel_rfl) rfl,fun W2 hW2 t ht2=>?_⟩ (fun t ht2=>(nf_gat hok).ok t ht2) ?_
 ·have h1:=tot_mem ht2
  have h2:=tot_gat l
  have h3:hw k+2≤tot l*(hw k+2):=Nat.le_mul_of_pos_left _ (by omega)
  have e: #[tV t]++ #[Value.pointer (some ⟨g,0,none⟩)]= #[tV t,.pointer (some ⟨g,0,none⟩)]:=by simp
  rw [e]
  exact po_scale1 k t g W2 (hV.gr hW2 hlt) (by omega) (by omega)
 ·have h1:=tot_scale k (gat l)
  have h2:=tot_gat l
  have h3:=tot_len (gat l)
  have h4:(gat l).length*hw k≤tot l*hw k:=Nat.mul_le_mul_right _ (by omega)
  rw [Nat.mul_add]at ht
  omega
set_option maxRecDepth 20000 in
set_option maxHeartbeats 4000000 in
theorem Dx_raw {r:List T} (v:Value) (w:World) (hE:Calls Tryz.prog 23 #[v,.func (.func 50) #[] #[]] w (RetP w r)):Calls Tryz.prog 27 #[v] w (RetP w r):=by
 have hE:=Lib.hid hE
 go_enter Tryz.func27,Tryz.ntmps27
 go_wp2_with fail
 refine hE.out.mono ?_
 rintro e w2 ⟨v2,rfl,hS3,hg3⟩
 have HS3:=Lib.hid hS3
 have HG3:=Lib.hid hg3
 clear hS3 hg3
 go_wp2
 go_ret
 exact⟨_,rfl,HS3.out,HG3.out⟩
set_option maxRecDepth 20000 in
set_option maxHeartbeats 4000000 in
theorem Dy_raw {r:List T} (v:Value) (w:World) (hE:Calls Tryz.prog 23 #[v,.func (.func 51) #[] #[]] w (RetP w r)):Calls Tryz.prog 28 #[v] w (RetP w r):=by
 have hE:=Lib.hid hE
 go_enter Tryz.func28,Tryz.ntmps28
 go_wp2_with fail
 refine hE.out.mono ?_
 rintro e w2 ⟨v2,rfl,hS3,hg3⟩
 have HS3:=Lib.hid hS3
 have HG3:=Lib.hid hg3
 clear hS3 hg3
 go_wp2
 go_ret
 exact⟨_,rfl,HS3.out,HG3.out⟩
theorem po_Dx (l:List T) (v:Value) (w:World) (hS:PL w 0 v l) (hok:∀t∈l,t.ok) (ht:tot l*3≤100000000000):Calls Tryz.prog 27 #[v] w (RetP w (gat ((gat l).map T.dx))):=by
 have hg:=nf_gat hok
 have h2:=tot_gat l
 refine Dx_raw v w (po_each l v w hS hok (by omega) ⟨enters_of Tryz.func50 (by kernel_rfl) rfl,fun W2 _ t ht2=>?_⟩ (fun t ht2=>?_) ?_)
 ·rw [Array.append_empty]
  have h1:=tot_mem ht2
  exact po_dx1 t W2 (hg.ok t ht2) (by omega)
 ·have:=hg.ok t ht2
  unfold T.ok at *
  simp only [T.dx];omega
 ·have h1:=tot_dx (gat l) hg.ok
  have h3:=tot_len (gat l)
  omega
theorem po_Dy (l:List T) (v:Value) (w:World) (hS:PL w 0 v l) (hok:∀t∈l,t.ok) (ht:tot l*3≤100000000000):Calls Tryz.prog 28 #[v] w (RetP w (gat ((gat l).map T.dy))):=by
 have hg:=nf_gat hok
 have h2:=tot_gat l
 refine Dy_raw v w (po_each l v w hS hok (by omega) ⟨enters_of Tryz.func51 (by kernel_rfl) rfl,fun W2 _ t ht2=>?_⟩ (fun t ht2=>?_) ?_)
 ·rw [Array.append_empty]
  have h1:=tot_mem ht2
  exact po_dy1 t W2 (hg.ok t ht2) (by omega)
 ·have:=hg.ok t ht2
  unfold T.ok at *
  simp only [T.dy];omega
 ·have h1:=tot_dy (gat l) hg.ok
  have h3:=tot_len (gat l)
  omega
set_option maxRecDepth 20000 in
set_option maxHeartbeats 4000000 in
theorem po_Neg (l:List T) (v:Value) (w:World) (hS:PL w 0 v l) (hok:∀t∈l,t.ok) (ht:tot l*4≤100000000000):Calls Tryz.prog 49 #[v] w (RetP w (gat ((gat l).map (T.scale (((-1:Int)):Rat))))):=by
 have hI:=Lib.hid (fun w=>fr_Int (-1) w (by omega) (by omega))
 have hk:hw (((-1:Int)):Rat)≤2:=hw_int (-1) (by omega) (by omega)
 have hE:=Lib.hid (fun W (h:Gr w.heap.size w W)=>po_Scale (((-1:Int)):Rat) l v W (hS.gr h) hok (Nat.le_trans (Nat.mul_le_mul_left _ (by omega)) ht))
 clear hS hok ht hk
 generalize gat ((gat l).map (T.scale (((-1:Int)):Rat)))=r at *
 generalize (((-1:Int)):Rat)=q at *
 go_enter Tryz.func49,Tryz.ntmps49
 go_wp2_with fail
 (refine(hI.out _).mono ?_;rintro e w1 ⟨rfl,hg1⟩;(try (with_reducible replace hg1:=Gr.of_drew hg1));have hsz1:=hg1.size;(try simp at hsz1);skip;obtain ⟨hc1,hf1⟩:=hg1.cells;have HG1:=Lib.hid hg1;clear hg1)
 go_wp2_with fail
 refine(hE.out _ HG1.out).mono ?_
 rintro e w2 ⟨v2,rfl,hS3,hg3⟩
 have HS3:=Lib.hid hS3
 have HG3:=Lib.hid hg3
 clear hS3 hg3
 go_wp2
 go_ret
 exact⟨_,rfl,HS3.out.mono (by omega),HG1.out.trans (HG3.out.mono (by omega))⟩
set_option maxRecDepth 20000 in
set_option maxHeartbeats 4000000 in
theorem PSub_raw {r:List T} {n:List T} (v u:Value) (w:World) (hN:Calls Tryz.prog 49 #[u] w (RetP w n)) (hA:∀W u2,Gr w.heap.size w W→PL W 0 u2 n→Calls Tryz.prog 9 #[v,u2] W (RetP W r)):Calls Tryz.prog 26 #[v,u] w (RetP w r):=by
 have hN:=Lib.hid hN
 have hA:=Lib.hid hA
 go_enter Tryz.func26,Tryz.ntmps26
 go_wp2_with fail
 refine hN.out.mono ?_
 rintro e w2 ⟨v2,rfl,hS2,hg2⟩
 have HS2:=Lib.hid hS2
 have HG2:=Lib.hid hg2
 have hsz2:=hg2.size
 clear hS2 hg2
 go_wp2_with fail
 refine(hA.out _ _ HG2.out (HS2.out.mono (Nat.zero_le _))).mono ?_
 rintro e w3 ⟨v3,rfl,hS3,hg3⟩
 have HS3:=Lib.hid hS3
 have HG3:=Lib.hid hg3
 clear hS3 hg3
 go_wp2
 go_ret
 exact⟨_,rfl,HS3.out.mono (by omega),HG2.out.trans (HG3.out.mono (by omega))⟩
def negL (l:List T):List T:=gat ((gat l).map (T.scale (((-1:Int)):Rat)))
def addL (l m:List T):List T:=gat (gat l++gat m)
def subL (l m:List T):List T:=addL l (negL m)
def scaleL (k:Rat) (l:List T):List T:=gat ((gat l).map (T.scale k))
def dxL (l:List T):List T:=gat ((gat l).map T.dx)
def dyL (l:List T):List T:=gat ((gat l).map T.dy)
theorem tot_negL (l:List T):tot (negL l)≤tot l*3:=by
 unfold negL
 have h1:=tot_gat ((gat l).map (T.scale (((-1:Int)):Rat)))
 have h2:=tot_scale (((-1:Int)):Rat) (gat l)
 have h3:=tot_gat l
 have h4:=tot_len (gat l)
 have hk:hw (((-1:Int)):Rat)≤2:=hw_int (-1) (by omega) (by omega)
 have h5:(gat l).length*hw (((-1:Int)):Rat)≤(gat l).length*2:=Nat.mul_le_mul_left _ hk
 omega
theorem ok_scale {k:Rat} {l:List T} (h:∀t∈l,t.ok):∀t∈(gat l).map (T.scale k),t.ok:=by
 intro t ht
 obtain ⟨x,hx,rfl⟩:=List.mem_map.1 ht
 exact(nf_gat h).ok x hx
theorem po_Sub (l m:List T) (v u:Value) (w:World) (hS:PL w 0 v l) (hU:PL w 0 u m) (hok:∀t∈l,t.ok) (hok2:∀t∈m,t.ok) (ht:tot l+tot m*4≤100000000000):Calls Tryz.prog 26 #[v,u] w (RetP w (subL l m)):=by
 refine PSub_raw (n:=negL m) v u w (po_Neg m u w hU hok2 (by omega)) fun W u2 hg hu=>?_
 have:=tot_negL m
 exact po_Add l (negL m) v u2 W (hS.gr hg) hu hok (nf_gat (ok_scale hok2)).ok (by omega)
end Go.Proofs.YtmelogdhllhjiaaGreat
