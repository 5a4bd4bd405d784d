/-
  Part 13 of the proof: Index MeshB.
-/
import Derived.Test.YtfgmdhjmgdccdaaGreatJ12
set_option linter.unusedSimpArgs false
set_option linter.unusedVariables false
set_option maxHeartbeats 8000000
namespace Go.Proofs.YtfgmdhjmgdccdaaGreat
open Go.RowKit Gus
def Shx (w:World) (g:Nat) (t:TypeId):Prop:= ∃N,Sh w g t N
theorem Shx.lt {w:World} {g:Nat} {t:TypeId} (h:Shx w g t):g<w.heap.size:=by obtain ⟨N,h⟩:=h;exact h.lt
def SR {α:Type} (enc:α→List Value) (k:Nat) (t:TypeId) (w:World) (B:Nat) (v:Value) (l:List α):Prop:=
 (v= .slice none 0 0∧l= [])∨∃g cap,v= .slice (some ⟨g,0,none⟩) l.length cap∧B≤g∧l.length≤cap∧cap≤maxLen∧Shx w g t∧RC enc k w g l
section
variable {α:Type} {enc:α→List Value} {k:Nat} {t:TypeId} {w w':World} {B C:Nat} {v:Value} {l:List α}
theorem SL.sr (h:SL enc k t w B v l):SR enc k t w B v l:=by
 rcases h with h|⟨g,cap,h1,h2,h3,h4,h5,h6⟩
 ·exact .inl h
 ·exact .inr ⟨g,cap,h1,h2,h3,h4,⟨_,h5⟩,h6⟩
theorem SR.gr (h:SR enc k t w B v l) (hg:Gr w.heap.size w w'):SR enc k t w' B v l:=by
 rcases h with h|⟨g,cap,h1,h2,h3,h4,⟨N,h5⟩,h6⟩
 ·exact .inl h
 ·exact .inr ⟨g,cap,h1,h2,h3,h4,⟨N,h5.of_gr hg⟩,h6.gr hg h5.lt⟩
theorem SR.mono (h:SR enc k t w B v l) (hB:C≤B):SR enc k t w C v l:=by
 rcases h with h|⟨g,cap,h1,h2,h3⟩
 ·exact .inl h
 ·exact .inr ⟨g,cap,h1,by omega,h3⟩
theorem SR.len (h:SR enc k t w B v l):l.length≤maxLen:=by
 rcases h with⟨_,rfl⟩|⟨g,cap,_,_,h3,h4,_⟩
 ·simp
 ·omega
theorem SR.block (h:SR enc k t w B v l) (hl:l≠ []):∃g cap,v= .slice (some ⟨g,0,none⟩) l.length cap∧B≤g∧l.length≤cap∧cap≤maxLen∧Shx w g t∧RC enc k w g l:=by
 rcases h with⟨_,h⟩|h
 ·exact absurd h hl
 ·exact h
theorem SR.at (h:SR enc k t w B v l):∃a cap,v= .slice a l.length cap:=by
 rcases h with⟨rfl,rfl⟩|⟨g,cap,h,_⟩
 ·exact⟨_,_,rfl⟩
 ·exact⟨_,_,h⟩
theorem SR.cap {a:Option Addr} {n c:Nat} (h:SR enc k t w B (.slice a n c) l):l.length=n∧n≤c∧c≤maxLen:=by
 rcases h with⟨h,rfl⟩|⟨g,cap,h,_,h3,h4,_⟩
 ·injection h with _ h2 h3;subst h2 h3;simp [maxLen]
 ·injection h with _ h2 h5;subst h2 h5;exact⟨rfl,h3,h4⟩
theorem SR.clip {a:Option Addr} {n c:Nat} (h:SR enc k t w B (.slice a n c) l):SR enc k t w B (.slice a n n) l:=by
 rcases h with⟨h,rfl⟩|⟨g,cap,h,h2,h3,h4,h5,h6⟩
 ·injection h with h1 h2 h3;subst h1 h2;exact .inl ⟨rfl,rfl⟩
 ·injection h with h1 h7 h8;subst h1 h7;exact .inr ⟨g,_,rfl,h2,Nat.le_refl _,by omega,h5,h6⟩
end
def TellsIn {α:Type} (enc:α→Value) (F:FuncId) (cb:Array Value) (p:α→Bool) (l:List α) (w:World):Prop:=
 (∀args w,(callFunc F args).run Tryz.prog w= .ok (.enter F args) w)∧∀W,Gr w.heap.size w W→∀x∈l,Calls Tryz.prog F (#[enc x]++cb) W (Ret W (.bool (p x)))
theorem idxP_nonneg {α:Type} (p:α→Bool) (l:List α):decide (0≤idxP p l)=l.any p:=by
 unfold idxP
 cases h:l.findIdx? p with
 | none=>
  have:=List.findIdx?_eq_none_iff.1 h
  have e:l.any p=false:=by
   rw [List.any_eq_false]
   intro x hx
   simp [this x hx]
  rw [e];rfl
 | some i=>
  obtain ⟨hi,hp,_⟩:=List.findIdx?_eq_some_iff_getElem.1 h
  have e:l.any p=true:=List.any_eq_true.2 ⟨l[i],List.getElem_mem hi,hp⟩
  rw [e]
  exact decide_eq_true (by show(0:Int)≤(i:Int);omega)
theorem RC.fTri {w:World} {g:Nat} {l:List (Nat×Nat×Nat)} (h:RC triC 3 w g l) {j:Nat} (hj:j<l.length) {y:Nat×Nat×Nat} (hy:l[j]=y):w.cell? ⟨g,j*3,none⟩=some (.int .i64 (y.1:Int))∧w.cell? ⟨g,j*3+1,none⟩=some (.int .i64 (y.2.1:Int))∧w.cell? ⟨g,j*3+2,none⟩=some (.int .i64 (y.2.2:Int)):=by
 subst hy
 exact⟨h j hj 0 _ rfl,h j hj 1 _ rfl,h j hj 2 _ rfl⟩
theorem triC_len (x:Nat×Nat×Nat):(triC x).length=3:=rfl
set_option maxRecDepth 20000 in
set_option maxHeartbeats 4000000 in
theorem index_Tri {p:Nat×Nat×Nat→Bool} {F:FuncId} {cb:Array Value} (l:List (Nat×Nat×Nat)) (v:Value) (B:Nat) (t:TypeId) (w:World) (hS:SR triC 3 t w B v l) (hp:TellsIn triV F cb p l w):
  Calls Tryz.prog 149 #[v,.func (.func F) #[] cb] w (Ret w (.int .i64 (idxP p l))):=by
 obtain ⟨eg,hp⟩:=hp
 obtain ⟨a,cap,rfl⟩:=hS.at
 have hl:=hS.len
 have HS:=Lh hS
 have HP:=Lh hp
 have hl2:(l.length:Int)≤9223372036854775807:=by simp only [maxLen]at hl;omega
 clear hS hp hl
 go_enter Tryz.func149,Tryz.ntmps149
 go_wp2
 go_loopw [8] (fun s wr=> ∃j:Nat,j≤l.length∧s= .int .i64 j∧Hid (∀i (hi:i<l.length),i<j→p l[i]=false)∧Gr w.heap.size w wr) (fun s _=>l.length - (intOf s).toNat)
 case atStart=>exact⟨0,Nat.zero_le _,rfl,fun i _ h=>by omega,Gr.refl _ _⟩
 case round=>
  obtain ⟨j,hj,rfl,hf,hgr⟩:=hrel
  by_cases hlt:j<l.length
  ·obtain ⟨y,hy⟩:∃y,l[j]=y:=⟨_,rfl⟩
   obtain ⟨g,cap',e1,_,_,_,hsh,hR⟩:=(HS.out.gr hgr).block (by intro e;rw [e]at hlt;simp at hlt)
   injection e1 with e1 _ e2
   subst e1 e2
   obtain ⟨v0,v1,v2⟩:=hR.fTri hlt hy
   have HC:=Lh (HP.out wr hgr y (hy ▸ List.getElem_mem hlt))
   have HY:=Lh hy
   have HG:=Lh hgr
   clear hgr hy hR hsh
   cases hq:p y with
   | true=>
    rw [hq]at HC
    go_wp2_with (go_at_fn F;refine HC.out.mono ?_;rintro e w1 ⟨rfl,hg1⟩;have HG1:=Lh hg1;clear hg1)
    go_ret
    have e:idxP p l=j:=by
     unfold idxP
     rw [List.findIdx?_eq_some_iff_getElem.2 ⟨hlt,by rw [HY.out];exact hq,fun i hi=>by rw [hf.out i (by omega) hi];simp⟩]
    exact⟨by rw [e];rfl,HG.out.trans (HG1.out.mono HG.out.size)⟩
   | false=>
    rw [hq]at HC
    go_wp2_with (go_at_fn F;refine HC.out.mono ?_;rintro e w1 ⟨rfl,hg1⟩;have HG1:=Lh hg1;clear hg1)
    go_roundw
    case rel=>exact⟨j+1,by omega,by go_num,fun i hi h=>by
     rcases Nat.lt_succ_iff_lt_or_eq.1 h with h|h
     ·exact hf.out i hi h
     ·subst h;rw [HY.out];exact hq,HG.out.trans (HG1.out.mono HG.out.size)⟩
    case measure=>simp [intOf];omega
  ·obtain rfl:j=l.length:=by omega
   have HG:=Lh hgr
   clear hgr
   go_wp2
   go_ret
   have e:idxP p l= -1:=by
    unfold idxP
    rw [List.findIdx?_eq_none_iff.2 fun x hx=>by
     obtain ⟨i,hi,rfl⟩:=List.getElem_of_mem hx
     simp [hf.out i hi hi]]
   exact⟨by rw [e];rfl,HG.out⟩
set_option maxRecDepth 20000 in
set_option maxHeartbeats 4000000 in
theorem contains_Tri {p:Nat×Nat×Nat→Bool} {F:FuncId} {cb:Array Value} (l:List (Nat×Nat×Nat)) (v:Value) (B:Nat) (t:TypeId) (w:World) (hS:SR triC 3 t w B v l) (hp:TellsIn triV F cb p l w):
  Calls Tryz.prog 108 #[v,.func (.func F) #[] cb] w (Ret w (.bool (l.any p))):=by
 have hI:=Lh (index_Tri l v B t w hS hp)
 have HE:=Lh (idxP_nonneg p l)
 clear hS hp
 generalize idxP p l=r at *
 go_enter Tryz.func108,Tryz.ntmps108
 go_wp2_with fail
 (refine rtu (hI.out) fun w1 hsz1 hl1 hc1 hf1 HG1=>?_;(try simp at hsz1))
 go_wp2
 go_ret
 exact⟨by rw [←HE.out];simp,HG1.out⟩
theorem RC.fPt {w:World} {g:Nat} {l:List (Pt)} (h:RC pC 10 w g l) {j:Nat} (hj:j<l.length) {y:Pt} (hy:l[j]=y):w.cell? ⟨g,j*10,none⟩=some (vA y.x)∧w.cell? ⟨g,j*10+1,none⟩=some (vB y.x)∧w.cell? ⟨g,j*10+2,none⟩=some (vC y.x)∧w.cell? ⟨g,j*10+3,none⟩=some (vD y.x)∧w.cell? ⟨g,j*10+4,none⟩=some (vE y.x)∧w.cell? ⟨g,j*10+5,none⟩=some (vA y.y)∧w.cell? ⟨g,j*10+6,none⟩=some (vB y.y)∧w.cell? ⟨g,j*10+7,none⟩=some (vC y.y)∧w.cell? ⟨g,j*10+8,none⟩=some (vD y.y)∧w.cell? ⟨g,j*10+9,none⟩=some (vE y.y):=by
 subst hy
 exact⟨h j hj 0 _ rfl,h j hj 1 _ rfl,h j hj 2 _ rfl,h j hj 3 _ rfl,h j hj 4 _ rfl,h j hj 5 _ rfl,h j hj 6 _ rfl,h j hj 7 _ rfl,h j hj 8 _ rfl,h j hj 9 _ rfl⟩
theorem pC_len (x:Pt):(pC x).length=10:=rfl
set_option maxRecDepth 20000 in
set_option maxHeartbeats 4000000 in
theorem index_Pt {p:Pt→Bool} {F:FuncId} {cb:Array Value} (l:List (Pt)) (v:Value) (B:Nat) (t:TypeId) (w:World) (hS:SR pC 10 t w B v l) (hp:TellsIn pV F cb p l w):
  Calls Tryz.prog 207 #[v,.func (.func F) #[] cb] w (Ret w (.int .i64 (idxP p l))):=by
 obtain ⟨eg,hp⟩:=hp
 obtain ⟨a,cap,rfl⟩:=hS.at
 have hl:=hS.len
 have HS:=Lh hS
 have HP:=Lh hp
 have hl2:(l.length:Int)≤9223372036854775807:=by simp only [maxLen]at hl;omega
 clear hS hp hl
 go_enter Tryz.func207,Tryz.ntmps207
 go_wp2
 go_loopw [8] (fun s wr=> ∃j:Nat,j≤l.length∧s= .int .i64 j∧Hid (∀i (hi:i<l.length),i<j→p l[i]=false)∧Gr w.heap.size w wr) (fun s _=>l.length - (intOf s).toNat)
 case atStart=>exact⟨0,Nat.zero_le _,rfl,fun i _ h=>by omega,Gr.refl _ _⟩
 case round=>
  obtain ⟨j,hj,rfl,hf,hgr⟩:=hrel
  by_cases hlt:j<l.length
  ·obtain ⟨y,hy⟩:∃y,l[j]=y:=⟨_,rfl⟩
   obtain ⟨g,cap',e1,_,_,_,hsh,hR⟩:=(HS.out.gr hgr).block (by intro e;rw [e]at hlt;simp at hlt)
   injection e1 with e1 _ e2
   subst e1 e2
   obtain ⟨v0,v1,v2,v3,v4,v5,v6,v7,v8,v9⟩:=hR.fPt hlt hy
   have HC:=Lh (HP.out wr hgr y (hy ▸ List.getElem_mem hlt))
   have HY:=Lh hy
   have HG:=Lh hgr
   clear hgr hy hR hsh
   cases hq:p y with
   | true=>
    rw [hq]at HC
    go_wp2_with (go_at_fn F;refine HC.out.mono ?_;rintro e w1 ⟨rfl,hg1⟩;have HG1:=Lh hg1;clear hg1)
    go_ret
    have e:idxP p l=j:=by
     unfold idxP
     rw [List.findIdx?_eq_some_iff_getElem.2 ⟨hlt,by rw [HY.out];exact hq,fun i hi=>by rw [hf.out i (by omega) hi];simp⟩]
    exact⟨by rw [e];rfl,HG.out.trans (HG1.out.mono HG.out.size)⟩
   | false=>
    rw [hq]at HC
    go_wp2_with (go_at_fn F;refine HC.out.mono ?_;rintro e w1 ⟨rfl,hg1⟩;have HG1:=Lh hg1;clear hg1)
    go_roundw
    case rel=>exact⟨j+1,by omega,by go_num,fun i hi h=>by
     rcases Nat.lt_succ_iff_lt_or_eq.1 h with h|h
     ·exact hf.out i hi h
     ·subst h;rw [HY.out];exact hq,HG.out.trans (HG1.out.mono HG.out.size)⟩
    case measure=>simp [intOf];omega
  ·obtain rfl:j=l.length:=by omega
   have HG:=Lh hgr
   clear hgr
   go_wp2
   go_ret
   have e:idxP p l= -1:=by
    unfold idxP
    rw [List.findIdx?_eq_none_iff.2 fun x hx=>by
     obtain ⟨i,hi,rfl⟩:=List.getElem_of_mem hx
     simp [hf.out i hi hi]]
   exact⟨by rw [e];rfl,HG.out⟩
set_option maxRecDepth 20000 in
set_option maxHeartbeats 4000000 in
theorem contains_Pt {p:Pt→Bool} {F:FuncId} {cb:Array Value} (l:List (Pt)) (v:Value) (B:Nat) (t:TypeId) (w:World) (hS:SR pC 10 t w B v l) (hp:TellsIn pV F cb p l w):
  Calls Tryz.prog 180 #[v,.func (.func F) #[] cb] w (Ret w (.bool (l.any p))):=by
 have hI:=Lh (index_Pt l v B t w hS hp)
 have HE:=Lh (idxP_nonneg p l)
 clear hS hp
 generalize idxP p l=r at *
 go_enter Tryz.func180,Tryz.ntmps180
 go_wp2_with fail
 (refine rtu (hI.out) fun w1 hsz1 hl1 hc1 hf1 HG1=>?_;(try simp at hsz1))
 go_wp2
 go_ret
 exact⟨by rw [←HE.out];simp,HG1.out⟩
end Go.Proofs.YtfgmdhjmgdccdaaGreat
namespace Go.Proofs.YtfgmdhjmgdccdaaGreat
open Go.RowKit Gus
abbrev Tri:=Nat×Nat×Nat
structure Msh where
 pts:List Pt
 tris:List Tri
 sides:List Tri
def MS (w:World) (B:Nat) (vp vt vs:Value) (m:Msh):Prop:=SR pC 10 64 w B vp m.pts∧SR triC 3 106 w B vt m.tris∧SR triC 3 123 w B vs m.sides
theorem MS.gr {w w':World} {B:Nat} {vp vt vs:Value} {m:Msh} (h:MS w B vp vt vs m) (hg:Gr w.heap.size w w'):MS w' B vp vt vs m:=⟨h.1.gr hg,h.2.1.gr hg,h.2.2.gr hg⟩
structure GoodA (m:Msh):Prop where
 tri:∀t∈m.tris,goodT m.pts.length t∧∀a b c,m.pts[t.1]? =some a→m.pts[t.2.1]? =some b→m.pts[t.2.2]? =some c→turn a b c=1
 side:∀s∈m.sides,s.1<m.pts.length∧s.2.1<m.pts.length∧s.2.2≤255
 hp_:∀p∈m.pts,hp p≤1000000000
 one:m.tris≠ []
set_option maxRecDepth 20000 in
theorem ms_args (m:Msh) (vp vt vs:Value) (w:World) (hM:MS w 0 vp vt vs m) (hG:GoodA m):Calls Tryz.prog 97 #[.agg #[vp,vt,vs]] w (Ret w (.bool true)):=by
 obtain ⟨hP,hT,hS⟩:=hM
 obtain ⟨ap,cp,rfl⟩:=hP.at
 obtain ⟨at_,ct,rfl⟩:=hT.at
 obtain ⟨as_,cs,rfl⟩:=hS.at
 have l1:=hP.len
 have l2:=hT.len
 have l3:=hS.len
 have hl1:(m.pts.length:Int)≤9223372036854775807:=by simp only [maxLen]at l1;omega
 have hl2:(m.tris.length:Int)≤9223372036854775807:=by simp only [maxLen]at l2;omega
 have hl3:(m.sides.length:Int)≤9223372036854775807:=by simp only [maxLen]at l3;omega
 have HP:=Lh hP
 have HT:=Lh hT
 have HS:=Lh hS
 have HG:=Lh hG
 clear hP hT hS hG l1 l2 l3
 go_enter Tryz.func97,Tryz.ntmps97
 go_wp2
 have hb:Hid (VB (w.alloc (.cells #[.slice ap m.pts.length cp,.slice at_ m.tris.length ct,.slice as_ m.sides.length cs] 35)) w.heap.size [.slice ap m.pts.length cp,.slice at_ m.tris.length ct,.slice as_ m.sides.length cs]):=VB.new w [.slice ap m.pts.length cp,.slice at_ m.tris.length ct,.slice as_ m.sides.length cs] _
 go_loopw [14] (fun s wr=> ∃j:Nat,j≤m.tris.length∧s= .int .i64 j∧Hid (Gr w.heap.size w wr)∧Hid (VB wr w.heap.size [.slice ap m.pts.length cp,.slice at_ m.tris.length ct,.slice as_ m.sides.length cs])) (fun s _=>m.tris.length - (intOf s).toNat)
 case atStart=>exact⟨0,Nat.zero_le _,rfl,Lh (by exact gzz),hb⟩
 case round=>
  obtain ⟨j,hj,rfl,HGr,HB⟩:=hrel
  obtain ⟨b0,b1,b2,_,_,_⟩:=HB.out.three
  have hsz0:=HB.out.lt
  by_cases hlt:j<m.tris.length
  ·obtain ⟨t,ht⟩:∃t,m.tris[j]=t:=⟨_,rfl⟩
   have hmem:t∈m.tris:=ht ▸ List.getElem_mem hlt
   obtain ⟨⟨g1,g2,g3,e1,e2,e3⟩,htn⟩:=HG.out.tri t hmem
   obtain ⟨g,cap',e4,_,_,_,hsh,hR⟩:=(HT.out.gr HGr.out).block (by intro e;rw [e]at hlt;simp at hlt)
   injection e4 with e4 _ e5
   subst e4 e5
   obtain ⟨gp,cap',e4,_,_,_,hshp,hRp⟩:=(HP.out.gr HGr.out).block (by intro e;rw [e]at g1;simp at g1)
   injection e4 with e4 _ e5
   subst e4 e5
   obtain ⟨v0,v1,v2⟩:=hR.fTri hlt ht
   obtain ⟨a,ha⟩:∃a,m.pts[t.1]=a:=⟨_,rfl⟩
   obtain ⟨b,hbb⟩:∃b,m.pts[t.2.1]=b:=⟨_,rfl⟩
   obtain ⟨c,hcc⟩:∃c,m.pts[t.2.2]=c:=⟨_,rfl⟩
   have hpa:=HG.out.hp_ a (ha ▸ List.getElem_mem _)
   have hpb:=HG.out.hp_ b (hbb ▸ List.getElem_mem _)
   have hpc:=HG.out.hp_ c (hcc ▸ List.getElem_mem _)
   obtain ⟨a0,a1,a2,a3,a4,a5,a6,a7,a8,a9⟩:=hRp.fPt g1 ha
   obtain ⟨c0,c1,c2,c3,c4,c5,c6,c7,c8,c9⟩:=hRp.fPt g2 hbb
   obtain ⟨d0,d1,d2,d3,d4,d5,d6,d7,d8,d9⟩:=hRp.fPt g3 hcc
   have h1:=Lh (fun w=>point_raw (p:=(t.1:Int)) (m:=(m.pts.length:Int)) (by omega) (by omega) w)
   have h2:=Lh (fun w=>point_raw (p:=(t.2.1:Int)) (m:=(m.pts.length:Int)) (by omega) (by omega) w)
   have h3:=Lh (fun w=>point_raw (p:=(t.2.2:Int)) (m:=(m.pts.length:Int)) (by omega) (by omega) w)
   have htr:turn a b c=1:=htn a b c (by rw [List.getElem?_eq_getElem g1,ha]) (by rw [List.getElem?_eq_getElem g2,hbb]) (by rw [List.getElem?_eq_getElem g3,hcc])
   have h4:=Lh (fun w=>htr ▸ pt_Turn a b c w hpa hpb hpc)
   have hgl:=hsh.lt
   have hgp:=hshp.lt
   have n1:¬gp=wr.heap.size:=by omega
   have n2:¬w.heap.size=wr.heap.size:=by omega
   have q1:(t.1:Int)<(m.pts.length:Int):=by omega
   have q2:(t.2.1:Int)<(m.pts.length:Int):=by omega
   have q3:(t.2.2:Int)<(m.pts.length:Int):=by omega
   clear hR hRp hsh hshp ht hmem htn ha hbb hcc hpa hpb hpc htr e1 e2 e3
   go_wp2
   refine wp_region_held_drew (S:=(fun w'=>w'.cell? ⟨wr.heap.size,0,none⟩=some (.int .i64 (t.1:Int))∧w'.cell? ⟨wr.heap.size,1,none⟩=some (.int .i64 (t.2.1:Int))∧w'.cell? ⟨wr.heap.size,2,none⟩=some (.int .i64 (t.2.2:Int))∧w'.cell? ⟨w.heap.size,0,none⟩=some (.slice (some ⟨gp,0,none⟩) m.pts.length cp)∧w'.cell? ⟨gp,t.1*10,none⟩=some (vA a.x)∧w'.cell? ⟨gp,t.1*10+1,none⟩=some (vB a.x)∧w'.cell? ⟨gp,t.1*10+2,none⟩=some (vC a.x)∧w'.cell? ⟨gp,t.1*10+3,none⟩=some (vD a.x)∧w'.cell? ⟨gp,t.1*10+4,none⟩=some (vE a.x)∧w'.cell? ⟨gp,t.1*10+5,none⟩=some (vA a.y)∧w'.cell? ⟨gp,t.1*10+6,none⟩=some (vB a.y)∧w'.cell? ⟨gp,t.1*10+7,none⟩=some (vC a.y)∧w'.cell? ⟨gp,t.1*10+8,none⟩=some (vD a.y)∧w'.cell? ⟨gp,t.1*10+9,none⟩=some (vE a.y)∧w'.cell? ⟨gp,t.2.1*10,none⟩=some (vA b.x)∧w'.cell? ⟨gp,t.2.1*10+1,none⟩=some (vB b.x)∧w'.cell? ⟨gp,t.2.1*10+2,none⟩=some (vC b.x)∧w'.cell? ⟨gp,t.2.1*10+3,none⟩=some (vD b.x)∧w'.cell? ⟨gp,t.2.1*10+4,none⟩=some (vE b.x)∧w'.cell? ⟨gp,t.2.1*10+5,none⟩=some (vA b.y)∧w'.cell? ⟨gp,t.2.1*10+6,none⟩=some (vB b.y)∧w'.cell? ⟨gp,t.2.1*10+7,none⟩=some (vC b.y)∧w'.cell? ⟨gp,t.2.1*10+8,none⟩=some (vD b.y)∧w'.cell? ⟨gp,t.2.1*10+9,none⟩=some (vE b.y)∧w'.cell? ⟨gp,t.2.2*10,none⟩=some (vA c.x)∧w'.cell? ⟨gp,t.2.2*10+1,none⟩=some (vB c.x)∧w'.cell? ⟨gp,t.2.2*10+2,none⟩=some (vC c.x)∧w'.cell? ⟨gp,t.2.2*10+3,none⟩=some (vD c.x)∧w'.cell? ⟨gp,t.2.2*10+4,none⟩=some (vE c.x)∧w'.cell? ⟨gp,t.2.2*10+5,none⟩=some (vA c.y)∧w'.cell? ⟨gp,t.2.2*10+6,none⟩=some (vB c.y)∧w'.cell? ⟨gp,t.2.2*10+7,none⟩=some (vC c.y)∧w'.cell? ⟨gp,t.2.2*10+8,none⟩=some (vD c.y)∧w'.cell? ⟨gp,t.2.2*10+9,none⟩=some (vE c.y))) (by kernel_rfl) ?_ (fun hHeld=>?_)
   ·simp [go_sem, *]
   refine tq 0 18 (.pointer (some ⟨wr.heap.size,0,none⟩)) ?_
   refine tq 1 19 (.int .i64 (t.1:Int)) ?_
   refine tq 2 20 (.int .i64 (m.pts.length:Int)) ?_
   refine rd 3 (fun K hK=>?_)
   go_simp
   (refine rtt (h1.out _) fun w1 hsz1 hc1 hf1 HG1=>?_;(try simp at hsz1);have hy1_0:wr.heap.size<w1.heap.size:=(by omega);have hy1_1:gp<w1.heap.size:=(by omega);have hz1_0:w.heap.size<w1.heap.size:=(by omega))
   refine kO hK fun hQ1=>?_
   clear hK K hHeld
   refine tq 4 22 (.bool false) ?_
   refine tq 5 23 (.bool false) ?_
   refine tq 6 24 (.pointer (some ⟨wr.heap.size,1,none⟩)) ?_
   refine tq 7 25 (.int .i64 (t.2.1:Int)) ?_
   refine tq 8 26 (.int .i64 (m.pts.length:Int)) ?_
   refine rd 9 (fun K hK=>?_)
   go_simp
   (refine rtt (h2.out _) fun w2 hsz2 hc2 hf2 HG2=>?_;(try simp at hsz2);have hy2_0:wr.heap.size<w2.heap.size:=(by omega);have hy2_1:gp<w2.heap.size:=(by omega);have hz2_0:w.heap.size<w2.heap.size:=(by omega))
   (try dsimp only)
   refine hK.out _ _ ?_ (fun hQ2=>?_)
   ·(first|exact trivial|((try dsimp only);simp [go_sem, *]))
   clear hK K hQ1
   try simp only [pS]
   refine tq 10 28 (.bool false) ?_
   refine tq 11 29 (.bool false) ?_
   refine tq 12 30 (.bool false) ?_
   refine tq 13 31 (.pointer (some ⟨wr.heap.size,2,none⟩)) ?_
   refine tq 14 32 (.int .i64 (t.2.2:Int)) ?_
   refine tq 15 33 (.int .i64 (m.pts.length:Int)) ?_
   refine rd 16 (fun K hK=>?_)
   go_simp
   (refine rtt (h3.out _) fun w3 hsz3 hc3 hf3 HG3=>?_;(try simp at hsz3);have hy3_0:wr.heap.size<w3.heap.size:=(by omega);have hy3_1:gp<w3.heap.size:=(by omega);have hz3_0:w.heap.size<w3.heap.size:=(by omega))
   (try dsimp only)
   refine hK.out _ _ ?_ (fun hQ3=>?_)
   ·(first|exact trivial|((try dsimp only);simp [go_sem, *]))
   clear hK K hQ2
   try simp only [pS]
   refine tq 17 35 (.bool false) ?_
   refine tq 18 36 (.bool false) ?_
   refine tq 19 37 (.bool false) ?_
   refine tq 20 38 (.pointer (some ⟨w.heap.size,0,none⟩)) ?_
   refine tq 21 39 (.slice (some ⟨gp,0,none⟩) m.pts.length cp) ?_
   refine tq 22 40 (.pointer (some ⟨wr.heap.size,0,none⟩)) ?_
   refine tq 23 41 (.int .i64 (t.1:Int)) ?_
   refine tq 24 42 (.pointer (some ⟨gp,t.1*10,none⟩)) ?_
   refine tq 25 43 (pV a) ?_
   refine tq 26 44 (.pointer (some ⟨w.heap.size,0,none⟩)) ?_
   refine tq 27 45 (.slice (some ⟨gp,0,none⟩) m.pts.length cp) ?_
   refine tq 28 46 (.pointer (some ⟨wr.heap.size,1,none⟩)) ?_
   refine tq 29 47 (.int .i64 (t.2.1:Int)) ?_
   refine tq 30 48 (.pointer (some ⟨gp,t.2.1*10,none⟩)) ?_
   refine tq 31 49 (pV b) ?_
   refine tq 32 50 (.pointer (some ⟨w.heap.size,0,none⟩)) ?_
   refine tq 33 51 (.slice (some ⟨gp,0,none⟩) m.pts.length cp) ?_
   refine tq 34 52 (.pointer (some ⟨wr.heap.size,2,none⟩)) ?_
   refine tq 35 53 (.int .i64 (t.2.2:Int)) ?_
   refine tq 36 54 (.pointer (some ⟨gp,t.2.2*10,none⟩)) ?_
   refine tq 37 55 (pV c) ?_
   refine rd 38 (fun K hK=>?_)
   go_simp
   (refine rtt (h4.out _) fun w4 hsz4 hc4 hf4 HG4=>?_;(try simp at hsz4);have hy4_0:wr.heap.size<w4.heap.size:=(by omega);have hy4_1:gp<w4.heap.size:=(by omega);have hz4_0:w.heap.size<w4.heap.size:=(by omega))
   (try dsimp only)
   refine hK.out _ _ ?_ (fun hQ4=>?_)
   ·(first|exact trivial|((try dsimp only);simp [go_sem, *]))
   clear hK K hQ3
   try simp only [pS]
   refine tq 39 57 (.bool false) ?_
   refine tq 40 58 (.bool false) ?_
   refine wpAnyH_done (by kernel_rfl) ?_ _
   go_wp2
   go_roundw
   case rel=>exact⟨j+1,by omega,by go_num,Lh (HGr.out.trans (by(with_reducible (repeat' (first|exact Gr.refl _ _|refine Gr.drew ?_|refine Gr.setCell ?_ ?_ _|refine Gr.alloc ?_ ?_ _|refine Gr.trans ?_ (Gr.mono HG4.out ?_)|refine Gr.trans ?_ (Gr.mono HG3.out ?_)|refine Gr.trans ?_ (Gr.mono HG2.out ?_)|refine Gr.trans ?_ (Gr.mono HG1.out ?_)|omega|(simp;done)|(simp;omega)))))),Lh (by(with_reducible (repeat' (first|(refine VB.new' ?_;exact(by first|omega|(simp;done)|(simp;omega)))|apply VB.put2|apply VB.put3|apply VB.put5|refine VB.drew ?_|refine VB.far ?_ ?_ _|refine VB.alloc ?_ _|exact HB.out|refine VB.gr ?_ HG4.out ?_|refine VB.gr ?_ HG3.out ?_|refine VB.gr ?_ HG2.out ?_|refine VB.gr ?_ HG1.out ?_|omega|(simp;done)|(simp;omega)))))⟩
   case measure=>simp [intOf];omega
  ·obtain rfl:j=m.tris.length:=by omega
   have hne:m.tris.length≠0:=fun e=>HG.out.one (List.eq_nil_of_length_eq_zero e)
   go_wp2
   go_loopw [63] (fun s wi=> ∃j:Nat,j≤m.sides.length∧s= .int .i64 j∧Hid (Gr w.heap.size w wi)∧Hid (VB wi w.heap.size [.slice ap m.pts.length cp,.slice at_ m.tris.length ct,.slice as_ m.sides.length cs])) (fun s _=>m.sides.length - (intOf s).toNat)
   case atStart=>exact⟨0,Nat.zero_le _,rfl,HGr,HB⟩
   case round=>
    clear b0 b1 b2 hsz0
    obtain ⟨j,hj,rfl,HGi,HBi⟩:=hrel
    obtain ⟨b0,b1,b2,_,_,_⟩:=HBi.out.three
    have hsz0:=HBi.out.lt
    by_cases hlt2:j<m.sides.length
    ·obtain ⟨s,hs⟩:∃s,m.sides[j]=s:=⟨_,rfl⟩
     obtain ⟨g1,g2,g3⟩:=HG.out.side s (hs ▸ List.getElem_mem hlt2)
     obtain ⟨g,cap',e4,_,_,_,hsh,hR⟩:=(HS.out.gr HGi.out).block (by intro e;rw [e]at hlt2;simp at hlt2)
     injection e4 with e4 _ e5
     subst e4 e5
     obtain ⟨v0,v1,v2⟩:=hR.fTri hlt2 hs
     have h1:=Lh (fun w=>point_raw (p:=(s.1:Int)) (m:=(m.pts.length:Int)) (by omega) (by omega) w)
     have h2:=Lh (fun w=>point_raw (p:=(s.2.1:Int)) (m:=(m.pts.length:Int)) (by omega) (by omega) w)
     have q1:¬((s.2.2:Int)<0):=by omega
     have q2:¬((255:Int)<(s.2.2:Int)):=by omega
     clear hR hsh hs
     go_wp2_with fail
     (refine rtt (h1.out _) fun w1 hsz1 hc1 hf1 HG1=>?_;(try simp at hsz1);have hy1_0:wr.heap.size<w1.heap.size:=(by omega);have hz1_0:w.heap.size<w1.heap.size:=(by omega))
     go_wp2_with fail
     (refine rtt (h2.out _) fun w2 hsz2 hc2 hf2 HG2=>?_;(try simp at hsz2);have hy2_0:wr.heap.size<w2.heap.size:=(by omega);have hz2_0:w.heap.size<w2.heap.size:=(by omega))
     go_wp2
     go_roundw
     case rel=>exact⟨j+1,by omega,by go_num,Lh (HGi.out.trans (by(with_reducible (repeat' (first|exact Gr.refl _ _|refine Gr.drew ?_|refine Gr.setCell ?_ ?_ _|refine Gr.alloc ?_ ?_ _|refine Gr.trans ?_ (Gr.mono HG2.out ?_)|refine Gr.trans ?_ (Gr.mono HG1.out ?_)|omega|(simp;done)|(simp;omega)))))),Lh (by(with_reducible (repeat' (first|(refine VB.new' ?_;exact(by first|omega|(simp;done)|(simp;omega)))|apply VB.put2|apply VB.put3|apply VB.put5|refine VB.drew ?_|refine VB.far ?_ ?_ _|refine VB.alloc ?_ _|exact HBi.out|refine VB.gr ?_ HG2.out ?_|refine VB.gr ?_ HG1.out ?_|omega|(simp;done)|(simp;omega)))))⟩
     case measure=>simp [intOf];omega
    ·obtain rfl:j=m.sides.length:=by omega
     have hp0:0<m.tris.length:=by omega
     go_wp2
     go_ret
     exact⟨by simp [hp0],HGi.out⟩
end Go.Proofs.YtfgmdhjmgdccdaaGreat
