/-
  Part 24 of the proof: OnceS OnceB CompG Onc0 OncG.
-/
import Derived.Test.YtfgmdhjmgdccdaaGreatJ15
import Derived.Test.YtfgmdhjmgdccdaaGreatJ18
import Derived.Test.YtfgmdhjmgdccdaaGreatJ21
import Derived.Test.YtfgmdhjmgdccdaaGreatJ13
import Derived.Test.YtfgmdhjmgdccdaaGreatJ14
import Derived.Test.YtfgmdhjmgdccdaaGreatJ17
set_option linter.unusedSimpArgs false
set_option linter.unusedVariables false
namespace Go.Proofs.YtfgmdhjmgdccdaaGreat
open Go.RowKit Gus
abbrev PtB:= {p:Pt // hp p≤10}
instance:Inhabited PtB:=⟨⟨⟨0,0⟩,by decide+kernel⟩⟩
abbrev pbC (p:PtB):List Value:=pC p.1
abbrev pbV (p:PtB):Value:=pV p.1
def ordB (a b:PtB):Int:=ordP a.1 b.1
theorem pbC_len (p:PtB):(pbC p).length=10:=rfl
theorem pbC_one (x:PtB):∀v∈pbC x,v.oneCell'=true:=pC_one' x.1
theorem cmpQ_neg (a b:Rat):cmpQ a b<0↔a<b:=by
 unfold cmpQ
 split
 ·simp [*]
 ·split<;>simp [*]
theorem cmpQ_zero (a b:Rat):cmpQ a b=0↔a=b:=by
 unfold cmpQ
 split
 ·rename_i h
  refine⟨fun h2=>by simp at h2,fun h2=>?_⟩
  subst h2
  exact absurd h (Rat.lt_irrefl)
 ·split<;>simp [*]
theorem lessP_iff (a b:Pt):lessP a b=true↔a.x<b.x∨a.x=b.x∧a.y<b.y:=by
 unfold lessP
 split
 ·rename_i h
  rw [cmpQ_zero]at h
  rw [decide_eq_true_eq,cmpQ_neg,h]
  constructor
  ·exact fun h2=> .inr ⟨rfl,h2⟩
  ·rintro (h2|h2)
   ·exact absurd h2 Rat.lt_irrefl
   ·exact h2.2
 ·rename_i h
  rw [cmpQ_zero]at h
  rw [decide_eq_true_eq,cmpQ_neg]
  constructor
  ·exact .inl
  ·rintro (h2|h2)
   ·exact h2
   ·exact absurd h2.1 h
theorem ordB_lt (a b:PtB):ordB a b<0↔a.1.x<b.1.x∨a.1.x=b.1.x∧a.1.y<b.1.y:=by
 unfold ordB ordP
 rw [←lessP_iff]
 split
 ·simp [*]
 ·split<;>simp [*]
theorem swo_B:Sort.SWO (ltOf ordB):=by
 have e:∀a b,ltOf ordB a b=decide (a.1.x<b.1.x∨a.1.x=b.1.x∧a.1.y<b.1.y):=fun a b=>decide_eq_decide.2 (ordB_lt a b)
 refine⟨fun x=>?_,fun x y z=>?_,fun x y z=>?_⟩
 ·rw [e,decide_eq_false_iff_not];rintro (h|⟨_,h⟩)<;>exact Rat.lt_irrefl h
 ·rw [e,e,e];simp only [decide_eq_true_eq];grind
 ·rw [e,e,e];simp only [decide_eq_false_iff_not];grind
theorem orders_B:Orders pbV 134 #[] ordB:=
 ⟨enters_of Tryz.func134 (by kernel_rfl) rfl,fun W x y=>by rw [Array.append_empty];exact ms_once1 x.1 y.1 W (by have:=x.2;omega) (by have:=y.2;omega)⟩
theorem sort_PtB (l:List PtB) (B g cap:Nat) (w:World) (hS:SL pbC 10 64 w B (.slice (some ⟨g,0,none⟩) l.length cap) l) (hl:l.length<4611686018427387904):
  Calls Tryz.prog 133 #[.slice (some ⟨g,0,none⟩) l.length cap,.func (.func 134) #[] #[]] w (fun e w'=>e= .returned (.tuple #[])∧∃l':List PtB,l'.Perm l∧(l'.Pairwise fun a b=> ¬ordB b a<0)∧SL pbC 10 64 w' B (.slice (some ⟨g,0,none⟩) l.length cap) l'∧Gr B w w'):=by
 obtain ⟨g',cap',e1,hBg,hcap,hcm,hsh,hR⟩:∃g' cap',Value.slice (some ⟨g,0,none⟩) l.length cap= .slice (some ⟨g',0,none⟩) l.length cap'∧B≤g'∧l.length≤cap'∧cap'≤maxLen∧Sh w g' 64 (cap'*10)∧RC pbC 10 w g' l:=by
  rcases hS with⟨h,_⟩|h
  ·cases h
  ·exact h
 cases e1
 have hglt:=hsh.lt
 have hH:Sort.HoldsK pbC 10 w g 0 l.toArray:=hR.holds pbC_len hsh.frozen
 have hP:Calls Tryz.prog 133 #[.slice (some ⟨g,0,none⟩) l.length cap,.func (.func 134) #[] #[]] w (fun e w'=>e= .returned (.tuple #[])∧∃d' n os,Sort.PermIn 0 l.length l.toArray d'∧Sort.SortedIn (ltOf ordB) 0 l.length d'∧w'=sortWorldK pbC 10 w g 0 n d' os):=
  AnyQ.slices_SortFunc Tryz.sortPoint 10 Tryz.isAgg64 Tryz.sizeOf64 pbC pbC_len pbC_one ordB swo_B _ #[] g 0 cap l.toArray w orders_B.1 (orders_B.lays g 0 _ w) hH hglt hl
 refine hP.mono ?_
 rintro e w' ⟨he,d,n,os,hd,hD,rfl⟩
 have hsz:d.size=l.length:=hd.1
 refine⟨he,d.toList,?_,?_,SL.sorted hS pbC_len n d hsz os,Gr.sorted hBg hglt n d os⟩
 ·have:=hd.2.2
  have e1:d.extract 0 l.length=d:=by rw [←hsz];simp
  rw [e1]at this
  simpa using this
 ·rw [List.pairwise_iff_getElem]
  intro i j hi hj hij
  have:=hD i j (Nat.zero_le _) hij (by simp at hj;omega)
  have hi':i<d.size:=by simpa using hi
  have hj':j<d.size:=by simpa using hj
  rw [getElem!_pos d j hj',getElem!_pos d i hi']at this
  simpa [ltOf] using this
theorem RC.mapv {w:World} {g:Nat} (l:List PtB):RC pbC 10 w g l↔RC pC 10 w g (l.map (·.1)):=by
 constructor
 ·intro h j hj i u hu
  exact h j (by simpa using hj) i u (by simpa using hu)
 ·intro h j hj i u hu
  exact h j (by simpa using hj) i u (by simpa using hu)
theorem SL.mapv {w:World} {B:Nat} {t:TypeId} {v:Value} (l:List PtB):SL pbC 10 t w B v l↔SL pC 10 t w B v (l.map (·.1)):=by
 unfold SL
 simp only [List.map_eq_nil_iff,List.length_map,RC.mapv]
end Go.Proofs.YtfgmdhjmgdccdaaGreat
namespace Go.Proofs.YtfgmdhjmgdccdaaGreat
open Go.RowKit Gus
abbrev boC (b:Bool):List Value:= [.bool b]
theorem boC_len (x:Bool):(boC x).length=1:=rfl
theorem RC.fBo {w:World} {g:Nat} {l:List Bool} (h:RC boC 1 w g l) {j:Nat} (hj:j<l.length) {y:Bool} (hy:l[j]=y):w.cell? ⟨g,j,none⟩=some (.bool y):=by
 subst hy
 have:=h j hj 0 _ rfl
 simpa using this
set_option maxRecDepth 20000 in
set_option maxHeartbeats 4000000 in
theorem index_Bo (l:List Bool) (v:Value) (B:Nat) (t:TypeId) (w:World) (hS:SR boC 1 t w B v l):
  Calls Tryz.prog 177 #[v,.bool false] w (Ret w (.int .i64 (idxP (fun x=> !x) l))):=by
 obtain ⟨a,cap,rfl⟩:=hS.at
 have hl:=hS.len
 have HS:=Lib.hid hS
 have hl2:(l.length:Int)≤9223372036854775807:=by simp only [maxLen]at hl;omega
 clear hS hl
 go_enter Tryz.func177,Tryz.ntmps177
 go_wp2
 go_loopw [8] (fun s wr=> ∃j:Nat,j≤l.length∧s= .int .i64 j∧Hid (∀i (hi:i<l.length),i<j→l[i]=true)∧Gr w.heap.size w wr) (fun s _=>l.length - (intOf s).toNat)
 case atStart=>exact⟨0,Nat.zero_le _,rfl,fun i _ h=>by omega,Gr.refl _ _⟩
 case round=>
  obtain ⟨j,hj,rfl,hf,hgr⟩:=hrel
  by_cases hlt:j<l.length
  ·obtain ⟨y,hy⟩:∃y,l[j]=y:=⟨_,rfl⟩
   obtain ⟨g,cap',e1,_,_,_,hsh,hR⟩:=(HS.out.gr hgr).block (by intro e;rw [e]at hlt;simp at hlt)
   injection e1 with e1 _ e2
   subst e1 e2
   have v0:=hR.fBo hlt hy
   have HY:=Lib.hid hy
   have HG:=Lib.hid hgr
   clear hgr hy hR hsh
   cases y with
   | false=>
    go_wp2
    go_ret
    have e:idxP (fun x=> !x) l=j:=by
     unfold idxP
     rw [List.findIdx?_eq_some_iff_getElem.2 ⟨hlt,by rw [HY.out];rfl,fun i hi=>by rw [hf.out i (by omega) hi];simp⟩]
    exact⟨by rw [e];rfl,HG.out⟩
   | true=>
    go_wp2
    go_roundw
    case rel=>exact⟨j+1,by omega,by go_num,Lib.hid fun i hi h=>by
     rcases Nat.lt_succ_iff_lt_or_eq.1 h with h|h
     ·exact hf.out i hi h
     ·subst h;exact HY.out,HG.out⟩
    case measure=>simp [intOf];omega
  ·obtain rfl:j=l.length:=by omega
   have HG:=Lib.hid hgr
   clear hgr
   go_wp2
   go_ret
   have e:idxP (fun x=> !x) l= -1:=by
    unfold idxP
    rw [List.findIdx?_eq_none_iff.2 fun x hx=>by
     obtain ⟨i,hi,rfl⟩:=List.getElem_of_mem hx
     simp [hf.out i hi hi]]
   exact⟨by rw [e];rfl,HG.out⟩
set_option maxRecDepth 20000 in
set_option maxHeartbeats 4000000 in
theorem contains_Bo (l:List Bool) (v:Value) (B:Nat) (t:TypeId) (w:World) (hS:SR boC 1 t w B v l):
  Calls Tryz.prog 131 #[v,.bool false] w (Ret w (.bool (l.any fun x=> !x))):=by
 have hI:=Lib.hid (index_Bo l v B t w hS)
 have HE:=Lib.hid (idxP_nonneg (fun x=> !x) l)
 clear hS
 generalize idxP (fun x=> !x) l=r at *
 go_enter Tryz.func131,Tryz.ntmps131
 go_wp2_with fail
 (refine rtt (hI.out) fun w1 hsz1 hc1 hf1 HG1=>?_;(try simp at hsz1))
 go_wp2
 go_ret
 exact⟨by rw [←HE.out];simp,HG1.out⟩
end Go.Proofs.YtfgmdhjmgdccdaaGreat
namespace Go.Proofs.YtfgmdhjmgdccdaaGreat
open Go.RowKit Gus
theorem qC_inj {x y:Rat}:(lowN (sz x.num)=lowN (sz y.num)∧bigS (sz x.num)=bigS (sz y.num))∧ng x.num=ng y.num∧lowN (fm x)=lowN (fm y)∧bigS (fm x)=bigS (fm y)↔x=y:=by
 rw [nat_same,nat_same]
 constructor
 ·rintro ⟨h1,h2,h3⟩
  have e1:x.num=y.num:=by rw [←sgd_self x.num,←sgd_self y.num,h1,h2]
  have e2:x.den=y.den:=by rw [den_fm,den_fm,h3]
  exact Rat.ext e1 e2
 ·intro h;rw [h];exact⟨rfl,rfl,rfl⟩
set_option maxRecDepth 20000 in
set_option maxHeartbeats 8000000 in
theorem eql_Pt (x y:Pt) (W:World):(binOp .eql 64 (pV x) (pV y)).run Tryz.prog W= .ok (.bool (decide (x=y))) W:=by
 have h:= @qC_inj x.x y.x
 have h':= @qC_inj x.y y.y
 go_simp
 by_cases e:x=y
 ·subst e;simp
 ·rw [decide_eq_false e]
  repeat' split
  all_goals first
   | rfl
   | (exfalso
      rename_i h1 h2 h3 h4 h5 h6 h7 h8 h9 h10
      have a:=h.1 ⟨⟨by omega,bytes_toList_inj.1 h2⟩,h3,by omega,bytes_toList_inj.1 h5⟩
      have b:=h'.1 ⟨⟨by omega,bytes_toList_inj.1 h7⟩,h8,by omega,bytes_toList_inj.1 h10⟩
      apply e
      cases x;cases y
      simp only at a b
      rw [a,b])
set_option maxRecDepth 20000 in
set_option maxHeartbeats 8000000 in
theorem compact_Pt (l:List Pt) (g cap:Nat) (w:World) (hn:l.length≤1000000) (hlt:g<w.heap.size) (hR:RC pC 10 w g l) (hd:∀k,0<k→(hk:k<l.length)→l[k]≠l[k - 1]):
  Calls Tryz.prog 136 #[.slice (some ⟨g,0,none⟩) l.length cap] w (Ret w (.slice (some ⟨g,0,none⟩) l.length cap)):=by
 have HR:=Lib.hid hR
 have HD:=Lib.hid hd
 have hl2:(l.length:Int)≤9223372036854775807:=by omega
 clear hR hd
 by_cases h2:l.length<2
 ·have h2':decide ((l.length:Int)<2)=true:=by simp;omega
  go_enter Tryz.func136,Tryz.ntmps136
  go_wp2
  go_ret
  exact⟨rfl,by exact gzz⟩
 ·have h2':decide ((l.length:Int)<2)=false:=by simp;omega
  go_enter Tryz.func136,Tryz.ntmps136
  go_wp2
  go_loopw [3] (fun s wr=> ∃k:Nat,1≤k∧k≤l.length∧s= .int .i64 k∧Hid (Gr w.heap.size w wr)) (fun s _=>l.length - (intOf s).toNat)
  case atStart=>exact⟨1,by omega,by omega,rfl,Lib.hid (by exact gzz)⟩
  case round=>
   obtain ⟨k,hk1,hk,rfl,HG⟩:=hrel
   by_cases hlt':k<l.length
   ·obtain ⟨p,hp⟩:∃p,l[k]=p:=⟨_,rfl⟩
    obtain ⟨q,hq⟩:∃q,l[k - 1]'(by omega)=q:=⟨_,rfl⟩
    have hne:decide (p=q)=false:=by have h:=HD.out k (by omega) hlt';rw [hp,hq]at h;exact decide_eq_false h
    obtain ⟨a0,a1,a2,a3,a4,a5,a6,a7,a8,a9⟩:=(HR.out.gr HG.out hlt).fPt hlt' hp
    obtain ⟨b0,b1,b2,b3,b4,b5,b6,b7,b8,b9⟩:=(HR.out.gr HG.out hlt).fPt (j:=k - 1) (by omega) hq
    have heql:∀W,(binOp .eql 64 (pV p) (pV q)).run Tryz.prog W= .ok (.bool false) W:=fun W=>by rw [eql_Pt,hne]
    have hw:IntKind.i64.wrap ((k:Int) - 1)=((k - 1:Nat):Int):=by rw [wrap64_id (by omega) (by omega)];omega
    have hh1:(0:Int)≤k:=by omega
    have hh2:(k:Int)<l.length:=by omega
    have hh3:(0:Int)≤((k - 1:Nat):Int):=by omega
    have hh4:((k - 1:Nat):Int)<l.length:=by omega
    go_wp2_with fail
    refine wp_region_held_drew (S:=(fun w'=>w'.cell? ⟨g,k*10,none⟩=some (.int .u64 (lowN (sz p.x.num)))∧w'.cell? ⟨g,k*10+1,none⟩=some (.string (bigS (sz p.x.num)))∧w'.cell? ⟨g,k*10+2,none⟩=some (.bool (ng p.x.num))∧w'.cell? ⟨g,k*10+3,none⟩=some (.int .u64 (lowN (fm p.x)))∧w'.cell? ⟨g,k*10+4,none⟩=some (.string (bigS (fm p.x)))∧w'.cell? ⟨g,k*10+5,none⟩=some (.int .u64 (lowN (sz p.y.num)))∧w'.cell? ⟨g,k*10+6,none⟩=some (.string (bigS (sz p.y.num)))∧w'.cell? ⟨g,k*10+7,none⟩=some (.bool (ng p.y.num))∧w'.cell? ⟨g,k*10+8,none⟩=some (.int .u64 (lowN (fm p.y)))∧w'.cell? ⟨g,k*10+9,none⟩=some (.string (bigS (fm p.y)))∧w'.cell? ⟨g,(k - 1)*10,none⟩=some (.int .u64 (lowN (sz q.x.num)))∧w'.cell? ⟨g,(k - 1)*10+1,none⟩=some (.string (bigS (sz q.x.num)))∧w'.cell? ⟨g,(k - 1)*10+2,none⟩=some (.bool (ng q.x.num))∧w'.cell? ⟨g,(k - 1)*10+3,none⟩=some (.int .u64 (lowN (fm q.x)))∧w'.cell? ⟨g,(k - 1)*10+4,none⟩=some (.string (bigS (fm q.x)))∧w'.cell? ⟨g,(k - 1)*10+5,none⟩=some (.int .u64 (lowN (sz q.y.num)))∧w'.cell? ⟨g,(k - 1)*10+6,none⟩=some (.string (bigS (sz q.y.num)))∧w'.cell? ⟨g,(k - 1)*10+7,none⟩=some (.bool (ng q.y.num))∧w'.cell? ⟨g,(k - 1)*10+8,none⟩=some (.int .u64 (lowN (fm q.y)))∧w'.cell? ⟨g,(k - 1)*10+9,none⟩=some (.string (bigS (fm q.y))))) (by kernel_rfl) ?_ (fun hHeld=>?_)
    ·simp [go_sem, *]
    refine tk 0 (some 16) (.slice (some ⟨g,0,none⟩) l.length cap) ?_
    try simp only [pS]
    refine tk 1 (some 17) (.int .i64 (k:Int)) ?_
    try simp only [pS]
    refine tk 2 (some 18) (.pointer (some ⟨g,k*10,none⟩)) ?_
    try simp only [pS]
    refine tk 3 (some 19) (pV p) ?_
    try simp only [pS]
    refine tk 4 (some 20) (.slice (some ⟨g,0,none⟩) l.length cap) ?_
    try simp only [pS]
    refine tk 5 (some 21) (.int .i64 (k:Int)) ?_
    try simp only [pS]
    refine tk 6 (some 22) (.int .i64 ((k - 1:Nat):Int)) ?_
    try simp only [pS]
    refine tk 7 (some 23) (.pointer (some ⟨g,(k - 1)*10,none⟩)) ?_
    try simp only [pS]
    refine tk 8 (some 24) (pV q) ?_
    try simp only [pS]
    refine tk 9 (some 25) (.bool false) ?_
    try simp only [pS]
    refine wpAnyH_done (by kernel_rfl) ?_ _
    go_wp2
    go_roundw
    case rel=>exact⟨k+1,by omega,by omega,by go_num,Lib.hid (by exact gcc HG gzz)⟩
    case measure=>simp [intOf];omega
   ·have hkl:k=l.length:=by omega
    subst hkl
    go_wp2
    go_ret
    exact⟨rfl,HG.out⟩
end Go.Proofs.YtfgmdhjmgdccdaaGreat
namespace Go.Proofs.YtfgmdhjmgdccdaaGreat
open Go.RowKit Gus Go.Maps
theorem Shx.set {w:World} {g:Nat} {t:TypeId} (h:Shx w g t) (p:Addr) (v:Value):Shx (w.setCell p v) g t:=by obtain ⟨N,h⟩:=h;exact⟨N,h.set p v⟩
theorem info_bBool:(Tryz.prog.info? 4).map (fun i=>(i.zero,i.size,i.bytes))=some (some (.bool false),1,1):=by kernel_rfl
theorem Shx.alloc {w:World} {g:Nat} {t:TypeId} (h:Shx w g t) (o:Obj):Shx (w.alloc o) g t:=h.gr (B:=w.heap.size) ((Gr.refl _ _).alloc (Nat.le_refl _) o) h.lt
theorem Shx.drew {w:World} {g:Nat} {t:TypeId} (h:Shx w g t):Shx w.drew g t:=h
end Go.Proofs.YtfgmdhjmgdccdaaGreat
namespace Go.Proofs.YtfgmdhjmgdccdaaGreat
open Go.RowKit Gus
def ustep (u:List Bool) (t:Tri):List Bool:=((u.set t.1 true).set t.2.1 true).set t.2.2 true
def usedS (N:Nat) (l:List Tri):Nat→List Bool
 | 0=>List.replicate N false
 | n+1=>match l[n]? with
  | some t=>ustep (usedS N l n) t
  | none=>usedS N l n
theorem usedS_len (N:Nat) (l:List Tri) (n:Nat):(usedS N l n).length=N:=by
 induction n with
 | zero=>simp [usedS]
 | succ n ih=>simp only [usedS];split<;>simp [ustep,ih]
theorem usedS_succ {N:Nat} {l:List Tri} {n:Nat} {t:Tri} (h:l[n]? =some t):usedS N l (n+1)=ustep (usedS N l n) t:=by simp [usedS,h]
theorem VB.one {w:World} {g:Nat} {cs:List Value} (h:VB w g cs) (o:Nat) (v:Value) (ho:o<cs.length):VB (w.setCell ⟨g,o,none⟩ v) g (cs.set o v):=by
 have h1:=VB.part o [v] h (ds:=cs.set o v) (by rw [List.set_eq_take_append_cons_drop,if_pos ho];simp) (by simp;omega)
 exact h1
theorem VB.bool {w:World} {g:Nat} {u:List Bool} (h:VB w g (u.map Value.bool)) (o:Nat) (b:Bool) (ho:o<u.length):VB (w.setCell ⟨g,o,none⟩ (.bool b)) g ((u.set o b).map Value.bool):=by
 rw [List.map_set];exact h.one o _ (by simpa using ho)
theorem VB.at {w:World} {g:Nat} {u:List Bool} (h:VB w g (u.map Value.bool)) {o:Nat} (ho:o<u.length):∃b,w.cell? ⟨g,o,none⟩=some (.bool b):=⟨u[o],h.c o _ (by rw [List.getElem?_map,List.getElem?_eq_getElem ho];rfl)⟩
theorem madeCells_rep (v:Value) (n:Nat):madeCells #[v] (n*1)=((List.replicate n v).toArray):=by
 rw [Nat.mul_one]
 apply Array.ext
 ·simp [size_madeCells]
 ·intro i h1 h2
  have h3:=madeCells_one v n i (by simpa using h2)
  rw [Array.getElem?_eq_getElem h1]at h3
  simp only [Option.some.injEq]at h3
  rw [h3];simp
structure GoodO (m:Msh):Prop where
 tri:∀t∈m.tris,goodT m.pts.length t
 used:usedS m.pts.length m.tris m.tris.length=List.replicate m.pts.length true
 nd:m.pts.Nodup
 hp_:∀p∈m.pts,hp p≤10
 few:m.pts.length≤1000000
 many:m.tris.length≤1000000
 one:m.pts≠ []
theorem lift_B:∀l:List Pt,(∀p∈l,hp p≤10)→∃b:List PtB,b.map (·.1)=l
 | [],_=>⟨[],rfl⟩
 | p :: l,h=>by
  obtain ⟨b,hb⟩:=lift_B l fun q hq=>h q (List.mem_cons_of_mem _ hq)
  exact⟨⟨p,h p (List.mem_cons_self ..)⟩ :: b,by simp [hb]⟩
theorem nodup_next {l:List Pt} (h:l.Nodup) (k:Nat) (hk0:0<k) (hk:k<l.length):l[k]≠l[k - 1]:=by
 exact fun e=>List.pairwise_iff_getElem.1 h (k - 1) k (by omega) hk (by omega) e.symm
end Go.Proofs.YtfgmdhjmgdccdaaGreat
