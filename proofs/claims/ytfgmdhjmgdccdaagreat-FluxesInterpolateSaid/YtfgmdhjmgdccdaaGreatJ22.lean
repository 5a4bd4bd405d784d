/-
  Part 22 of the proof: OnceS OnceB CompG Onc0 OncG OncW Where.
-/
import Derived.Test.YtfgmdhjmgdccdaaGreatJ15
import Derived.Test.YtfgmdhjmgdccdaaGreatJ17
import Derived.Test.YtfgmdhjmgdccdaaGreatJ19
import Derived.Test.YtfgmdhjmgdccdaaGreatJ13
import Derived.Test.YtfgmdhjmgdccdaaGreatJ14
import Derived.Test.YtfgmdhjmgdccdaaGreatJ16
set_option linter.unusedSimpArgs false
set_option linter.unusedVariables false
set_option maxHeartbeats 8000000
namespace Go.Proofs.YtfgmdhjmgdccdaaGreat
open Go.RowKit Gus
abbrev PtB:= {p:Pt // hp p≤10}
instance:Inhabited PtB:=⟨⟨⟨0,0⟩,by decide+kernel⟩⟩
abbrev pbC (p:PtB):List Value:=pC p.1
abbrev pbV (p:PtB):Value:=pV p.1
def ordB (a b:PtB):Int:=ordP a.1 b.1
theorem pbC_len (p:PtB):(pbC p).length=10:=rfl
theorem pbC_one (x:PtB):∀v∈pbC x,v.oneCell'=true:=pC_one' x.1
theorem cmpQ_neg (a b:Rat):cmpQ a b<0↔a<b:=by
 unfold cmpQ
 split
 ·simp [*]
 ·split<;>simp [*]
theorem cmpQ_zero (a b:Rat):cmpQ a b=0↔a=b:=by
 unfold cmpQ
 split
 ·rename_i h
  refine⟨fun h2=>by simp at h2,fun h2=>?_⟩
  subst h2
  exact absurd h (Rat.lt_irrefl)
 ·split<;>simp [*]
theorem lessP_iff (a b:Pt):lessP a b=true↔a.x<b.x∨a.x=b.x∧a.y<b.y:=by
 unfold lessP
 split
 ·rename_i h
  rw [cmpQ_zero]at h
  rw [decide_eq_true_eq,cmpQ_neg,h]
  constructor
  ·exact fun h2=> .inr ⟨rfl,h2⟩
  ·rintro (h2|h2)
   ·exact absurd h2 Rat.lt_irrefl
   ·exact h2.2
 ·rename_i h
  rw [cmpQ_zero]at h
  rw [decide_eq_true_eq,cmpQ_neg]
  constructor
  ·exact .inl
  ·rintro (h2|h2)
   ·exact h2
   ·exact absurd h2.1 h
theorem ordB_lt (a b:PtB):ordB a b<0↔a.1.x<b.1.x∨a.1.x=b.1.x∧a.1.y<b.1.y:=by
 unfold ordB ordP
 rw [←lessP_iff]
 split
 ·simp [*]
 ·split<;>simp [*]
theorem swo_B:Sort.SWO (ltOf ordB):=by
 have e:∀a b,ltOf ordB a b=decide (a.1.x<b.1.x∨a.1.x=b.1.x∧a.1.y<b.1.y):=fun a b=>decide_eq_decide.2 (ordB_lt a b)
 refine⟨fun x=>?_,fun x y z=>?_,fun x y z=>?_⟩
 ·rw [e,decide_eq_false_iff_not];rintro (h|⟨_,h⟩)<;>exact Rat.lt_irrefl h
 ·rw [e,e,e];simp only [decide_eq_true_eq];grind
 ·rw [e,e,e];simp only [decide_eq_false_iff_not];grind
theorem orders_B:Orders pbV 134 #[] ordB:=
 ⟨enters_of Tryz.func134 (by kernel_rfl) rfl,fun W x y=>by rw [Array.append_empty];exact ms_once1 x.1 y.1 W (by have:=x.2;omega) (by have:=y.2;omega)⟩
theorem sort_PtB (l:List PtB) (B g cap:Nat) (w:World) (hS:SL pbC 10 64 w B (.slice (some ⟨g,0,none⟩) l.length cap) l) (hl:l.length<4611686018427387904):
  Calls Tryz.prog 133 #[.slice (some ⟨g,0,none⟩) l.length cap,.func (.func 134) #[] #[]] w (fun e w'=>e= .returned (.tuple #[])∧∃l':List PtB,l'.Perm l∧(l'.Pairwise fun a b=> ¬ordB b a<0)∧SL pbC 10 64 w' B (.slice (some ⟨g,0,none⟩) l.length cap) l'∧Gr B w w'):=by
 obtain ⟨g',cap',e1,hBg,hcap,hcm,hsh,hR⟩:∃g' cap',Value.slice (some ⟨g,0,none⟩) l.length cap= .slice (some ⟨g',0,none⟩) l.length cap'∧B≤g'∧l.length≤cap'∧cap'≤maxLen∧Sh w g' 64 (cap'*10)∧RC pbC 10 w g' l:=by
  rcases hS with⟨h,_⟩|h
  ·cases h
  ·exact h
 cases e1
 have hglt:=hsh.lt
 have hH:Sort.HoldsK pbC 10 w g 0 l.toArray:=hR.holds pbC_len hsh.frozen
 have hP:Calls Tryz.prog 133 #[.slice (some ⟨g,0,none⟩) l.length cap,.func (.func 134) #[] #[]] w (fun e w'=>e= .returned (.tuple #[])∧∃d' n os,Sort.PermIn 0 l.length l.toArray d'∧Sort.SortedIn (ltOf ordB) 0 l.length d'∧w'=sortWorldK pbC 10 w g 0 n d' os):=
  AnyQ.slices_SortFunc Tryz.sortPoint 10 Tryz.isAgg64 Tryz.sizeOf64 pbC pbC_len pbC_one ordB swo_B _ #[] g 0 cap l.toArray w orders_B.1 (orders_B.lays g 0 _ w) hH hglt hl
 refine hP.mono ?_
 rintro e w' ⟨he,d,n,os,hd,hD,rfl⟩
 have hsz:d.size=l.length:=hd.1
 refine⟨he,d.toList,?_,?_,SL.sorted hS pbC_len n d hsz os,Gr.sorted hBg hglt n d os⟩
 ·have:=hd.2.2
  have e1:d.extract 0 l.length=d:=by rw [←hsz];simp
  rw [e1]at this
  simpa using this
 ·rw [List.pairwise_iff_getElem]
  intro i j hi hj hij
  have:=hD i j (Nat.zero_le _) hij (by simp at hj;omega)
  have hi':i<d.size:=by simpa using hi
  have hj':j<d.size:=by simpa using hj
  rw [getElem!_pos d j hj',getElem!_pos d i hi']at this
  simpa [ltOf] using this
theorem RC.mapv {w:World} {g:Nat} (l:List PtB):RC pbC 10 w g l↔RC pC 10 w g (l.map (·.1)):=by
 constructor
 ·intro h j hj i u hu
  exact h j (by simpa using hj) i u (by simpa using hu)
 ·intro h j hj i u hu
  exact h j (by simpa using hj) i u (by simpa using hu)
theorem SL.mapv {w:World} {B:Nat} {t:TypeId} {v:Value} (l:List PtB):SL pbC 10 t w B v l↔SL pC 10 t w B v (l.map (·.1)):=by
 unfold SL
 simp only [List.map_eq_nil_iff,List.length_map,RC.mapv]
end Go.Proofs.YtfgmdhjmgdccdaaGreat
namespace Go.Proofs.YtfgmdhjmgdccdaaGreat
open Go.RowKit Gus
abbrev boC (b:Bool):List Value:= [.bool b]
theorem boC_len (x:Bool):(boC x).length=1:=rfl
theorem RC.fBo {w:World} {g:Nat} {l:List Bool} (h:RC boC 1 w g l) {j:Nat} (hj:j<l.length) {y:Bool} (hy:l[j]=y):w.cell? ⟨g,j,none⟩=some (.bool y):=by
 subst hy
 have:=h j hj 0 _ rfl
 simpa using this
set_option maxRecDepth 20000 in
set_option maxHeartbeats 4000000 in
theorem index_Bo (l:List Bool) (v:Value) (B:Nat) (t:TypeId) (w:World) (hS:SR boC 1 t w B v l):
  Calls Tryz.prog 177 #[v,.bool false] w (Ret w (.int .i64 (idxP (fun x=> !x) l))):=by
 obtain ⟨a,cap,rfl⟩:=hS.at
 have hl:=hS.len
 have HS:=Lh hS
 have hl2:(l.length:Int)≤9223372036854775807:=by simp only [maxLen]at hl;omega
 clear hS hl
 go_enter Tryz.func177,Tryz.ntmps177
 go_wp2
 go_loopw [8] (fun s wr=> ∃j:Nat,j≤l.length∧s= .int .i64 j∧Hid (∀i (hi:i<l.length),i<j→l[i]=true)∧Gr w.heap.size w wr) (fun s _=>l.length - (intOf s).toNat)
 case atStart=>exact⟨0,Nat.zero_le _,rfl,fun i _ h=>by omega,Gr.refl _ _⟩
 case round=>
  obtain ⟨j,hj,rfl,hf,hgr⟩:=hrel
  by_cases hlt:j<l.length
  ·obtain ⟨y,hy⟩:∃y,l[j]=y:=⟨_,rfl⟩
   obtain ⟨g,cap',e1,_,_,_,hsh,hR⟩:=(HS.out.gr hgr).block (by intro e;rw [e]at hlt;simp at hlt)
   injection e1 with e1 _ e2
   subst e1 e2
   have v0:=hR.fBo hlt hy
   have HY:=Lh hy
   have HG:=Lh hgr
   clear hgr hy hR hsh
   cases y with
   | false=>
    go_wp2
    go_ret
    have e:idxP (fun x=> !x) l=j:=by
     unfold idxP
     rw [List.findIdx?_eq_some_iff_getElem.2 ⟨hlt,by rw [HY.out];rfl,fun i hi=>by rw [hf.out i (by omega) hi];simp⟩]
    exact⟨by rw [e];rfl,HG.out⟩
   | true=>
    go_wp2
    go_roundw
    case rel=>exact⟨j+1,by omega,by go_num,Lh fun i hi h=>by
     rcases Nat.lt_succ_iff_lt_or_eq.1 h with h|h
     ·exact hf.out i hi h
     ·subst h;exact HY.out,HG.out⟩
    case measure=>simp [intOf];omega
  ·obtain rfl:j=l.length:=by omega
   have HG:=Lh hgr
   clear hgr
   go_wp2
   go_ret
   have e:idxP (fun x=> !x) l= -1:=by
    unfold idxP
    rw [List.findIdx?_eq_none_iff.2 fun x hx=>by
     obtain ⟨i,hi,rfl⟩:=List.getElem_of_mem hx
     simp [hf.out i hi hi]]
   exact⟨by rw [e];rfl,HG.out⟩
set_option maxRecDepth 20000 in
set_option maxHeartbeats 4000000 in
theorem contains_Bo (l:List Bool) (v:Value) (B:Nat) (t:TypeId) (w:World) (hS:SR boC 1 t w B v l):
  Calls Tryz.prog 131 #[v,.bool false] w (Ret w (.bool (l.any fun x=> !x))):=by
 have hI:=Lh (index_Bo l v B t w hS)
 have HE:=Lh (idxP_nonneg (fun x=> !x) l)
 clear hS
 generalize idxP (fun x=> !x) l=r at *
 go_enter Tryz.func131,Tryz.ntmps131
 go_wp2_with fail
 (refine rtu (hI.out) fun w1 hsz1 hl1 hc1 hf1 HG1=>?_;(try simp at hsz1))
 go_wp2
 go_ret
 exact⟨by rw [←HE.out];simp,HG1.out⟩
end Go.Proofs.YtfgmdhjmgdccdaaGreat
namespace Go.Proofs.YtfgmdhjmgdccdaaGreat
open Go.RowKit Gus
theorem qC_inj {x y:Rat}:(lowN (sz x.num)=lowN (sz y.num)∧bigS (sz x.num)=bigS (sz y.num))∧ng x.num=ng y.num∧lowN (fm x)=lowN (fm y)∧bigS (fm x)=bigS (fm y)↔x=y:=by
 rw [nat_same,nat_same]
 constructor
 ·rintro ⟨h1,h2,h3⟩
  have e1:x.num=y.num:=by rw [←sgd_self x.num,←sgd_self y.num,h1,h2]
  have e2:x.den=y.den:=by rw [den_fm,den_fm,h3]
  exact Rat.ext e1 e2
 ·intro h;rw [h];exact⟨rfl,rfl,rfl⟩
set_option maxRecDepth 20000 in
theorem eql_Pt (x y:Pt) (W:World):(binOp .eql 64 (pV x) (pV y)).run Tryz.prog W= .ok (.bool (decide (x=y))) W:=by
 have h:= @qC_inj x.x y.x
 have h':= @qC_inj x.y y.y
 go_simp
 by_cases e:x=y
 ·subst e;simp
 ·rw [decide_eq_false e]
  repeat' split
  all_goals first
   | rfl
   | (exfalso
      rename_i h1 h2 h3 h4 h5 h6 h7 h8 h9 h10
      have a:=h.1 ⟨⟨by omega,bytes_toList_inj.1 h2⟩,h3,by omega,bytes_toList_inj.1 h5⟩
      have b:=h'.1 ⟨⟨by omega,bytes_toList_inj.1 h7⟩,h8,by omega,bytes_toList_inj.1 h10⟩
      apply e
      cases x;cases y
      simp only at a b
      rw [a,b])
set_option maxRecDepth 20000 in
theorem compact_Pt (l:List Pt) (g cap:Nat) (w:World) (hn:l.length≤1000000) (hlt:g<w.heap.size) (hR:RC pC 10 w g l) (hd:∀k,0<k→(hk:k<l.length)→l[k]≠l[k - 1]):
  Calls Tryz.prog 136 #[.slice (some ⟨g,0,none⟩) l.length cap] w (Ret w (.slice (some ⟨g,0,none⟩) l.length cap)):=by
 have HR:=Lh hR
 have HD:=Lh hd
 have hl2:(l.length:Int)≤9223372036854775807:=by omega
 clear hR hd
 by_cases h2:l.length<2
 ·have h2':decide ((l.length:Int)<2)=true:=by simp;omega
  go_enter Tryz.func136,Tryz.ntmps136
  go_wp2
  go_ret
  exact⟨rfl,by exact gzz⟩
 ·have h2':decide ((l.length:Int)<2)=false:=by simp;omega
  go_enter Tryz.func136,Tryz.ntmps136
  go_wp2
  go_loopw [3] (fun s wr=> ∃k:Nat,1≤k∧k≤l.length∧s= .int .i64 k∧Hid (Gr w.heap.size w wr)) (fun s _=>l.length - (intOf s).toNat)
  case atStart=>exact⟨1,by omega,by omega,rfl,Lh (by exact gzz)⟩
  case round=>
   obtain ⟨k,hk1,hk,rfl,HG⟩:=hrel
   by_cases hlt':k<l.length
   ·obtain ⟨p,hp⟩:∃p,l[k]=p:=⟨_,rfl⟩
    obtain ⟨q,hq⟩:∃q,l[k - 1]'(by omega)=q:=⟨_,rfl⟩
    have hne:decide (p=q)=false:=by have h:=HD.out k (by omega) hlt';rw [hp,hq]at h;exact decide_eq_false h
    obtain ⟨a0,a1,a2,a3,a4,a5,a6,a7,a8,a9⟩:=(HR.out.gr HG.out hlt).fPt hlt' hp
    obtain ⟨b0,b1,b2,b3,b4,b5,b6,b7,b8,b9⟩:=(HR.out.gr HG.out hlt).fPt (j:=k - 1) (by omega) hq
    have heql:∀W,(binOp .eql 64 (pV p) (pV q)).run Tryz.prog W= .ok (.bool false) W:=fun W=>by rw [eql_Pt,hne]
    have hw:IntKind.i64.wrap ((k:Int) - 1)=((k - 1:Nat):Int):=by rw [wrap64_id (by omega) (by omega)];omega
    have hh1:(0:Int)≤k:=by omega
    have hh2:(k:Int)<l.length:=by omega
    have hh3:(0:Int)≤((k - 1:Nat):Int):=by omega
    have hh4:((k - 1:Nat):Int)<l.length:=by omega
    go_wp2_with fail
    refine wp_region_held_drew (S:=(fun w'=>w'.cell? ⟨g,k*10,none⟩=some (vA p.x)∧w'.cell? ⟨g,k*10+1,none⟩=some (vB p.x)∧w'.cell? ⟨g,k*10+2,none⟩=some (vC p.x)∧w'.cell? ⟨g,k*10+3,none⟩=some (vD p.x)∧w'.cell? ⟨g,k*10+4,none⟩=some (vE p.x)∧w'.cell? ⟨g,k*10+5,none⟩=some (vA p.y)∧w'.cell? ⟨g,k*10+6,none⟩=some (vB p.y)∧w'.cell? ⟨g,k*10+7,none⟩=some (vC p.y)∧w'.cell? ⟨g,k*10+8,none⟩=some (vD p.y)∧w'.cell? ⟨g,k*10+9,none⟩=some (vE p.y)∧w'.cell? ⟨g,(k - 1)*10,none⟩=some (vA q.x)∧w'.cell? ⟨g,(k - 1)*10+1,none⟩=some (vB q.x)∧w'.cell? ⟨g,(k - 1)*10+2,none⟩=some (vC q.x)∧w'.cell? ⟨g,(k - 1)*10+3,none⟩=some (vD q.x)∧w'.cell? ⟨g,(k - 1)*10+4,none⟩=some (vE q.x)∧w'.cell? ⟨g,(k - 1)*10+5,none⟩=some (vA q.y)∧w'.cell? ⟨g,(k - 1)*10+6,none⟩=some (vB q.y)∧w'.cell? ⟨g,(k - 1)*10+7,none⟩=some (vC q.y)∧w'.cell? ⟨g,(k - 1)*10+8,none⟩=some (vD q.y)∧w'.cell? ⟨g,(k - 1)*10+9,none⟩=some (vE q.y))) (by kernel_rfl) ?_ (fun hHeld=>?_)
    ·simp [go_sem, *]
    refine tq 0 16 (.slice (some ⟨g,0,none⟩) l.length cap) ?_
    refine tq 1 17 (.int .i64 (k:Int)) ?_
    refine tq 2 18 (.pointer (some ⟨g,k*10,none⟩)) ?_
    refine tq 3 19 (pV p) ?_
    refine tq 4 20 (.slice (some ⟨g,0,none⟩) l.length cap) ?_
    refine tq 5 21 (.int .i64 (k:Int)) ?_
    refine tq 6 22 (.int .i64 ((k - 1:Nat):Int)) ?_
    refine tq 7 23 (.pointer (some ⟨g,(k - 1)*10,none⟩)) ?_
    refine tq 8 24 (pV q) ?_
    refine tq 9 25 (.bool false) ?_
    refine wpAnyH_done (by kernel_rfl) ?_ _
    go_wp2
    go_roundw
    case rel=>exact⟨k+1,by omega,by omega,by go_num,Lh (by exact gcc HG gzz)⟩
    case measure=>simp [intOf];omega
   ·have hkl:k=l.length:=by omega
    subst hkl
    go_wp2
    go_ret
    exact⟨rfl,HG.out⟩
end Go.Proofs.YtfgmdhjmgdccdaaGreat
namespace Go.Proofs.YtfgmdhjmgdccdaaGreat
open Go.RowKit Gus Go.Maps
theorem Shx.set {w:World} {g:Nat} {t:TypeId} (h:Shx w g t) (p:Addr) (v:Value):Shx (w.setCell p v) g t:=by obtain ⟨N,h⟩:=h;exact⟨N,h.set p v⟩
theorem info_bBool:(Tryz.prog.info? 4).map (fun i=>(i.zero,i.size,i.bytes))=some (some (.bool false),1,1):=by kernel_rfl
theorem Shx.alloc {w:World} {g:Nat} {t:TypeId} (h:Shx w g t) (o:Obj):Shx (w.alloc o) g t:=h.gr (B:=w.heap.size) ((Gr.refl _ _).alloc (Nat.le_refl _) o) h.lt
theorem Shx.drew {w:World} {g:Nat} {t:TypeId} (h:Shx w g t):Shx w.drew g t:=h
end Go.Proofs.YtfgmdhjmgdccdaaGreat
namespace Go.Proofs.YtfgmdhjmgdccdaaGreat
open Go.RowKit Gus
def ustep (u:List Bool) (t:Tri):List Bool:=((u.set t.1 true).set t.2.1 true).set t.2.2 true
def usedS (N:Nat) (l:List Tri):Nat→List Bool
 | 0=>List.replicate N false
 | n+1=>match l[n]? with
  | some t=>ustep (usedS N l n) t
  | none=>usedS N l n
theorem usedS_len (N:Nat) (l:List Tri) (n:Nat):(usedS N l n).length=N:=by
 induction n with
 | zero=>simp [usedS]
 | succ n ih=>simp only [usedS];split<;>simp [ustep,ih]
theorem usedS_succ {N:Nat} {l:List Tri} {n:Nat} {t:Tri} (h:l[n]? =some t):usedS N l (n+1)=ustep (usedS N l n) t:=by simp [usedS,h]
theorem VB.one {w:World} {g:Nat} {cs:List Value} (h:VB w g cs) (o:Nat) (v:Value) (ho:o<cs.length):VB (w.setCell ⟨g,o,none⟩ v) g (cs.set o v):=by
 have h1:=VB.part o [v] h (ds:=cs.set o v) (by rw [List.set_eq_take_append_cons_drop,if_pos ho];simp) (by simp;omega)
 exact h1
theorem VB.bool {w:World} {g:Nat} {u:List Bool} (h:VB w g (u.map Value.bool)) (o:Nat) (b:Bool) (ho:o<u.length):VB (w.setCell ⟨g,o,none⟩ (.bool b)) g ((u.set o b).map Value.bool):=by
 rw [List.map_set];exact h.one o _ (by simpa using ho)
theorem VB.at {w:World} {g:Nat} {u:List Bool} (h:VB w g (u.map Value.bool)) {o:Nat} (ho:o<u.length):∃b,w.cell? ⟨g,o,none⟩=some (.bool b):=⟨u[o],h.c o _ (by rw [List.getElem?_map,List.getElem?_eq_getElem ho];rfl)⟩
theorem madeCells_rep (v:Value) (n:Nat):madeCells #[v] (n*1)=((List.replicate n v).toArray):=by
 rw [Nat.mul_one]
 apply Array.ext
 ·simp [size_madeCells]
 ·intro i h1 h2
  have h3:=madeCells_one v n i (by simpa using h2)
  rw [Array.getElem?_eq_getElem h1]at h3
  simp only [Option.some.injEq]at h3
  rw [h3];simp
structure GoodO (m:Msh):Prop where
 tri:∀t∈m.tris,goodT m.pts.length t
 used:usedS m.pts.length m.tris m.tris.length=List.replicate m.pts.length true
 nd:m.pts.Nodup
 hp_:∀p∈m.pts,hp p≤10
 few:m.pts.length≤1000000
 many:m.tris.length≤1000000
 one:m.pts≠ []
theorem lift_B:∀l:List Pt,(∀p∈l,hp p≤10)→∃b:List PtB,b.map (·.1)=l
 | [],_=>⟨[],rfl⟩
 | p :: l,h=>by
  obtain ⟨b,hb⟩:=lift_B l fun q hq=>h q (List.mem_cons_of_mem _ hq)
  exact⟨⟨p,h p (List.mem_cons_self ..)⟩ :: b,by simp [hb]⟩
theorem nodup_next {l:List Pt} (h:l.Nodup) (k:Nat) (hk0:0<k) (hk:k<l.length):l[k]≠l[k - 1]:=by
 exact fun e=>List.pairwise_iff_getElem.1 h (k - 1) k (by omega) hk (by omega) e.symm
end Go.Proofs.YtfgmdhjmgdccdaaGreat
namespace Go.Proofs.YtfgmdhjmgdccdaaGreat
open Go.RowKit Gus
set_option maxRecDepth 20000 in
theorem ms_onceG (m:Msh) (vp vt vs:Value) (w:World) (hM:MS w 0 vp vt vs m) (hG:GoodO m):Calls Tryz.prog 98 #[.agg #[vp,vt,vs]] w (Ret w (.bool true)):=by
 obtain ⟨hP,hT,hS⟩:=hM
 obtain ⟨ap,cp,rfl⟩:=hP.at
 obtain ⟨at_,ct,rfl⟩:=hT.at
 obtain ⟨as_,cs,rfl⟩:=hS.at
 have l3:=hS.len
 have h6:=hG.few
 have h7:=hG.many
 have hl1:(m.pts.length:Int)≤9223372036854775807:=by omega
 have hl2:(m.tris.length:Int)≤9223372036854775807:=by omega
 have hl3:(m.sides.length:Int)≤9223372036854775807:=by simp only [maxLen]at l3;omega
 have HP:=Lh hP
 have HT:=Lh hT
 have HG:=Lh hG
 clear hP hT hS hG l3
 obtain ⟨i0,hi,hz0,hz1,hz2⟩:=info_parts info_bBool
 have hmk:∀W:World,(Instr.makeSlice 217 (.int .i64 (m.pts.length:Int)) (.int .i64 (m.pts.length:Int))).run Tryz.prog W= .ok (.slice (some ⟨W.heap.size,0,none⟩) m.pts.length m.pts.length) (W.alloc (.cells (madeCells #[.bool false] m.pts.length) 4)):=fun W=>by
  have h:=run_make_rowN 217 4 i0 _ Tryz.underlying217 hi hz0 .i64 .i64 m.pts.length m.pts.length (by omega) (by rw [hz2];omega) (by omega) W
  rw [hz1,Nat.mul_one]at h
  exact h
 clear hi hz0 hz1 hz2
 go_enter Tryz.func98,Tryz.ntmps98
 go_wp2
 have HV0:=Lh (show VB ((w.alloc (.cells #[.slice ap m.pts.length cp,.slice at_ m.tris.length ct,.slice as_ m.sides.length cs] 35)).alloc (.cells (madeCells #[.bool false] m.pts.length) 4)) w.heap.size [.slice ap m.pts.length cp,.slice at_ m.tris.length ct,.slice as_ m.sides.length cs]from by exact vbb)
 have HU0:=Lh (show VB ((w.alloc (.cells #[.slice ap m.pts.length cp,.slice at_ m.tris.length ct,.slice as_ m.sides.length cs] 35)).alloc (.cells (madeCells #[.bool false] m.pts.length) 4)) (w.heap.size+1) ((usedS m.pts.length m.tris 0).map Value.bool)from by rw [←Nat.mul_one m.pts.length,madeCells_rep,Nat.mul_one];simp only [usedS,List.map_replicate];exact VB.new' (by simp))
 have HX0:=Lh (show Shx ((w.alloc (.cells #[.slice ap m.pts.length cp,.slice at_ m.tris.length ct,.slice as_ m.sides.length cs] 35)).alloc (.cells (madeCells #[.bool false] m.pts.length) 4)) (w.heap.size+1) 4 from by
  have h:=Shx.new (w.alloc (.cells #[.slice ap m.pts.length cp,.slice at_ m.tris.length ct,.slice as_ m.sides.length cs] 35)) (madeCells #[.bool false] m.pts.length) 4
  simpa using h)
 have HG0:=Lh (show Gr w.heap.size w ((w.alloc (.cells #[.slice ap m.pts.length cp,.slice at_ m.tris.length ct,.slice as_ m.sides.length cs] 35)).alloc (.cells (madeCells #[.bool false] m.pts.length) 4))from by exact gzz)
 generalize ((w.alloc (.cells #[.slice ap m.pts.length cp,.slice at_ m.tris.length ct,.slice as_ m.sides.length cs] 35)).alloc (.cells (madeCells #[.bool false] m.pts.length) 4))=w0 at *
 go_loopw [14] (fun s wr=> ∃n:Nat,n≤m.tris.length∧s= .int .i64 n∧Hid (VB wr w.heap.size [.slice ap m.pts.length cp,.slice at_ m.tris.length ct,.slice as_ m.sides.length cs])∧Hid (VB wr (w.heap.size+1) ((usedS m.pts.length m.tris n).map Value.bool))∧Hid (Shx wr (w.heap.size+1) 4)∧Hid (Gr w.heap.size w wr)) (fun s _=>m.tris.length - (intOf s).toNat)
 case atStart=>exact⟨0,Nat.zero_le _,rfl,HV0,HU0,HX0,HG0⟩
 case round=>
  clear HV0 HU0 HX0 HG0
  obtain ⟨n,hn,rfl,HV,HU,HX,HGr⟩:=hrel
  have hszr:=HGr.out.size
  have g0:=HV.out.lt
  have g1:=HU.out.lt
  obtain ⟨b0,b1,b2,_⟩:=HV.out.three
  by_cases hlt:n<m.tris.length
  ·obtain ⟨t,ht⟩:∃t,m.tris[n]=t:=⟨_,rfl⟩
   have hgt:=HG.out.tri t (ht ▸ List.getElem_mem hlt)
   obtain ⟨x,y,z⟩:=t
   obtain ⟨e1,e2,e3,e4,e5,e6⟩:=hgt
   dsimp only at e1 e2 e3 e4 e5 e6
   obtain ⟨g,cap',q4,_,_,_,hsh,hR⟩:=(HT.out.gr HGr.out).block (by intro e;rw [e]at hlt;simp at hlt)
   injection q4 with q4 _ q5
   subst q4 q5
   have hglt:=hsh.lt
   obtain ⟨v0,v1,v2⟩:=hR.fTri hlt ht
   clear hR hsh
   dsimp only at v0 v1 v2
   have hul:=usedS_len m.pts.length m.tris n
   have hus:=usedS_succ (N:=m.pts.length) (show m.tris[n]? =some (x,y,z) by rw [List.getElem?_eq_getElem hlt,ht])
   obtain ⟨u,hu⟩:∃u,usedS m.pts.length m.tris n=u:=⟨_,rfl⟩
   rw [hu]at HU hul hus
   replace hus:=Lh hus
   clear hu
   obtain ⟨c0,x0⟩:=HU.out.at (o:=x) (by omega)
   obtain ⟨c1,x1⟩:=HU.out.at (o:=y) (by omega)
   obtain ⟨c2,x2⟩:=HU.out.at (o:=z) (by omega)
   have y0:=HU.out.f x (by simp;omega)
   have y1:=HU.out.f y (by simp;omega)
   have y2:=HU.out.f z (by simp;omega)
   have hne:¬wr.heap.size=w.heap.size+1:=by omega
   have hne2:¬w.heap.size+1=wr.heap.size:=by omega
   have k0:(x:Int)<m.pts.length:=by omega
   have k1:(y:Int)<m.pts.length:=by omega
   have k2:(z:Int)<m.pts.length:=by omega
   have k3:(0:Int)≤x:=by omega
   have k4:(0:Int)≤y:=by omega
   have k5:(0:Int)≤z:=by omega
   have f1:¬y=x:=by omega
   have f2:¬z=y:=by omega
   have f3:¬x=z:=by omega
   go_wp2
   refine wp_region_held_drew (S:=(fun w'=>w'.cell? ⟨wr.heap.size,0,none⟩=some (.int .i64 (x:Int))∧w'.cell? ⟨wr.heap.size,1,none⟩=some (.int .i64 (y:Int))∧w'.cell? ⟨wr.heap.size,2,none⟩=some (.int .i64 (z:Int)))) (by kernel_rfl) ?_ (fun hHeld=>?_)
   ·simp [go_sem, *]
   refine tq 0 18 (.slice (some ⟨w.heap.size+1,0,none⟩) m.pts.length m.pts.length) ?_
   refine tq 1 19 (.pointer (some ⟨wr.heap.size,0,none⟩)) ?_
   refine tq 2 20 (.int .i64 (x:Int)) ?_
   refine tq 3 21 (.slice (some ⟨w.heap.size+1,0,none⟩) m.pts.length m.pts.length) ?_
   refine tq 4 22 (.pointer (some ⟨wr.heap.size,1,none⟩)) ?_
   refine tq 5 23 (.int .i64 (y:Int)) ?_
   refine tq 6 24 (.slice (some ⟨w.heap.size+1,0,none⟩) m.pts.length m.pts.length) ?_
   refine tq 7 25 (.pointer (some ⟨wr.heap.size,2,none⟩)) ?_
   refine tq 8 26 (.int .i64 (z:Int)) ?_
   refine tq 9 27 (.pointer (some ⟨w.heap.size+1,x,none⟩)) ?_
   refine rd 10 (fun K hK=>?_)
   go_simp
   refine kO hK fun hQ1=>?_
   clear hK K hHeld
   refine tq 11 28 (.pointer (some ⟨w.heap.size+1,y,none⟩)) ?_
   refine rd 12 (fun K hK=>?_)
   go_simp
   refine kO hK fun hQ2=>?_
   clear hK K hQ1
   refine tq 13 29 (.pointer (some ⟨w.heap.size+1,z,none⟩)) ?_
   refine rd 14 (fun K hK=>?_)
   go_simp
   refine kO hK fun hQ3=>?_
   clear hK K hQ2
   refine wpAnyH_done (by kernel_rfl) ?_ _
   go_wp2
   go_roundw
   case rel=>exact⟨n+1,by omega,by go_num,Lh (by exact vbd HV.out),Lh (by rw [hus.out];exact VB.drew (VB.alloc (((HU.out.bool x true (by omega)).bool y true (by simp;omega)).bool z true (by simp;omega)) _)),Lh (((((HX.out.set _ _).set _ _).set _ _).alloc _).drew),Lh (by exact gcc HGr gzz)⟩
   case measure=>simp [intOf];omega
  ·have hnl:n=m.tris.length:=by omega
   subst hnl
   have hu:=HG.out.used
   rw [hu]at HU
   have HSB:=Lh (show SR boC 1 4 wr 0 (.slice (some ⟨w.heap.size+1,0,none⟩) m.pts.length m.pts.length) (List.replicate m.pts.length true)from .inr ⟨w.heap.size+1,m.pts.length,by rw [List.length_replicate],Nat.zero_le _,by rw [List.length_replicate];exact Nat.le_refl _,by simp [maxLen];omega,HX.out,RC.of_flat boC_len fun i u hu=>HU.out.c i u (by simpa [List.flatMap_replicate,boC] using hu)⟩)
   have hany:(List.replicate m.pts.length true).any (fun x=> !x)=false:=by simp
   have hcb:=Lh (contains_Bo (List.replicate m.pts.length true) _ 0 _ _ HSB.out)
   rw [hany]at hcb
   clear hu hany
   go_wp2_with fail
   (refine rtu (hcb.out) fun w1 hsz1 hl1 hc1 hf1 HG1=>?_;(try simp at hsz1))
   have HV1:=Lh (HV.out.gr HG1.out g0)
   obtain ⟨b0,b1,b2,_⟩:=HV1.out.three
   go_wp2_with fail
   refine(clone_Pt m.pts _ 0 _ (HP.out.gr (by exact gcc HG1 (gcc HGr gzz))) HG.out.few).mono ?_
   rintro e w2 ⟨v2,rfl,hS2,hg2⟩
   obtain ⟨g2,c2,rfl,hb2,_,_,_,_⟩:=hS2.block HG.out.one
   have HG2:=Lh hg2
   have hsz2:=hg2.size
   have HV2:=Lh (HV1.out.gr hg2 (by omega))
   obtain ⟨lb,hlb⟩:=lift_B m.pts HG.out.hp_
   have hll:lb.length=m.pts.length:=by rw [←hlb];simp
   have HS2:=Lh (show SL pbC 10 64 w2 w1.heap.size (.slice (some ⟨g2,0,none⟩) lb.length c2) lb from(SL.mapv lb).2 (by rw [hlb,hll];exact hS2))
   have HLB:=Lh hlb
   clear hS2 hg2 hc1 hf1 hlb
   skip
   go_wp2_with fail
   have hsort:=sort_PtB lb _ g2 c2 _ HS2.out (by omega)
   rw [hll]at hsort
   refine hsort.mono ?_
   rintro e w3 ⟨rfl,lc,hpm,hps,hS3,hg3⟩
   have hlc:lc.length=m.pts.length:=by rw [hpm.length_eq,hll]
   have hS3:=(SL.mapv lc).1 hS3
   clear hsort
   obtain ⟨g3,c3,e3,_,_,_,hsh3,hR3⟩:=hS3.block (by intro e;apply HG.out.one;rw [←List.length_eq_zero_iff,←hlc,←List.length_map (f:=(·.1)),e];rfl)
   injection e3 with e3 e6 e5
   injection e3 with e3
   injection e3 with e3
   subst e3 e5
   clear e6
   have hg2l:=hsh3.lt
   have HG3:=Lh hg3
   have hsz3:=hg3.size
   have HV3:=Lh (HV2.out.gr hg3 (by omega))
   have hcl:(lc.map (·.1)).length=m.pts.length:=by simp [hlc]
   have hnd:(lc.map (·.1)).Nodup:=((hpm.map (·.1)).nodup_iff).2 (by rw [HLB.out];exact HG.out.nd)
   have HCP:∀W:World,g2<W.heap.size→RC pC 10 W g2 (lc.map (·.1))→Calls Tryz.prog 136 #[.slice (some ⟨g2,0,none⟩) m.pts.length c2] W (Ret W (.slice (some ⟨g2,0,none⟩) m.pts.length c2)):=fun W h1 h2=>by
    have h:=compact_Pt (lc.map (·.1)) g2 c2 W (by rw [hcl];exact h6) h1 h2 (nodup_next hnd)
    rw [hcl]at h
    exact h
   replace HCP:=Lh HCP
   have HR3:=Lh hR3
   obtain ⟨b0,b1,b2,_⟩:=HV3.out.three
   have h0:w.heap.size<w3.heap.size:=HV3.out.lt
   clear hS3 hg3 hsh3 hR3 hnd hpm hps hcl hlc hll HLB hmk HS2
   go_wp2_with fail
   refine wp_region_held_drew (S:=(fun w'=>w'.cell? ⟨w.heap.size,0,none⟩=some (.slice ap m.pts.length cp)∧w'.cell? ⟨w.heap.size,1,none⟩=some (.slice at_ m.tris.length ct)∧w'.cell? ⟨w.heap.size,2,none⟩=some (.slice as_ m.sides.length cs))) (by kernel_rfl) ?_ (fun hHeld=>?_)
   ·simp [go_sem, *]
   refine tq 0 38 (.slice (some ⟨g2,0,none⟩) m.pts.length c2) ?_
   refine tq 3 41 (.pointer (some ⟨w.heap.size,0,none⟩)) ?_
   refine tq 4 42 (.slice ap m.pts.length cp) ?_
   refine tq 5 43 (.int .i64 (m.pts.length:Int)) ?_
   refine rd 1 (fun K hK=>?_)
   go_simp
   (refine rtu (HCP.out _ (by first|exact hg2l|(simp;exact hg2l)) (by first|exact HR3.out|exact HR3.out.drew)) fun w4 hsz4 hl4 hc4 hf4 HG4=>?_;(try simp at hsz4))
   refine kO hK fun hQ1=>?_
   clear hK K hHeld
   refine tq 2 40 (.int .i64 (m.pts.length:Int)) ?_
   refine tq 6 44 (.bool true) ?_
   refine tq 7 2 (.bool true) ?_
   refine wpAnyH_done (by kernel_rfl) ?_ _
   go_wp2
   go_ret
   exact⟨rfl,by exact gcc HG4 (gcc HG3 (gcc HG2 (gcc HG1 (gcc HGr gzz))))⟩
end Go.Proofs.YtfgmdhjmgdccdaaGreat
namespace Go.Proofs.YtfgmdhjmgdccdaaGreat
open Go.RowKit Gus
theorem ms_Bary (a b c p:Pt) (w:World) (ha:hp a≤1000) (hb:hp b≤1000) (hc:hp c≤1000) (hq:hp p≤1000) (h0:(twice a b c).num≠0):
  Calls Tryz.prog 183 #[pV a,pV b,pV c,pV p] w (Ret w (.tuple #[f3V (twice p b c / twice a b c).num (fm (twice p b c / twice a b c)) (twice a p c / twice a b c).num (fm (twice a p c / twice a b c)) (twice a b p / twice a b c).num (fm (twice a b p / twice a b c)),.int .i64 0])):=by
 have e0:=hw_twice a b c
 have e1:=hw_twice p b c
 have e2:=hw_twice a p c
 have e3:=hw_twice a b p
 exact Bary_raw (fun w=>tr_twice a b c w (by omega) (by omega) (by omega)) (fun w=>tr_twice p b c w (by omega) (by omega) (by omega)) (fun w=>tr_twice a p c w (by omega) (by omega) (by omega)) (fun w=>tr_twice a b p w (by omega) (by omega) (by omega))
  (fun w=>fr_Div _ _ w (by omega) (by omega) h0) (fun w=>fr_Div _ _ w (by omega) (by omega) h0) (fun w=>fr_Div _ _ w (by omega) (by omega) h0) w
def barS (a b c p:Pt):Nat→Int
 | 0=>sgnI (twice p b c / twice a b c).num
 | 1=>sgnI (twice a p c / twice a b c).num
 | _=>sgnI (twice a b p / twice a b c).num
theorem ms_Where (a b c p:Pt) (w:World) (ha:hp a≤1000) (hb:hp b≤1000) (hc:hp c≤1000) (hq:hp p≤1000) (h0:(twice a b c).num≠0):
  Calls Tryz.prog 140 #[pV a,pV b,pV c,pV p] w (Ret w (.int .i64 (whereS (barS a b c p)))):=
 Where_raw (barS a b c p) (fun w=>ms_Bary a b c p w ha hb hc hq h0) (fun w=>Sign_raw _ _ w) (fun w=>Sign_raw _ _ w) (fun w=>Sign_raw _ _ w) w
end Go.Proofs.YtfgmdhjmgdccdaaGreat
