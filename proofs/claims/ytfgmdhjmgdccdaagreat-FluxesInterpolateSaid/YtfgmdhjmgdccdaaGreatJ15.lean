/-
  Part 15 of the proof: MeshE MeshF Q Tri.
-/
import Derived.Test.YtfgmdhjmgdccdaaGreatJ14
import Derived.Test.YtfgmdhjmgdccdaaGreatJ11
set_option linter.unusedSimpArgs false
set_option linter.unusedVariables false
set_option maxHeartbeats 8000000
namespace Go.Proofs.YtfgmdhjmgdccdaaGreat
open Go.RowKit Gus
structure Edg where
 a:Int
 b:Int
 l:Int
 r:Int
deriving DecidableEq
instance:Inhabited Edg:=⟨⟨0,0,0,0⟩⟩
abbrev eC (e:Edg):List Value:= [.int .i64 e.a,.int .i64 e.b,.int .i64 e.l,.int .i64 e.r]
abbrev eV (e:Edg):Value:= .agg (eC e).toArray
def ordE (x y:Edg):Int:=if Lib.compareInt x.a y.a=0 then Lib.compareInt x.b y.b else Lib.compareInt x.a y.a
set_option maxRecDepth 20000 in
theorem ordE_raw {a b l r' a' b' l' r'' c1 c2:Int} (h1:∀w,Calls Tryz.prog 74 #[.int .i64 a,.int .i64 a'] w (Ret w (.int .i64 c1))) (h2:∀w,Calls Tryz.prog 74 #[.int .i64 b,.int .i64 b'] w (Ret w (.int .i64 c2))) (w:World):
  Calls Tryz.prog 72 #[.agg #[.int .i64 a,.int .i64 b,.int .i64 l,.int .i64 r'],.agg #[.int .i64 a',.int .i64 b',.int .i64 l',.int .i64 r'']] w (Ret w (.int .i64 (if c1=0 then c2 else c1))):=by
 have h1:=Lh h1
 have h2:=Lh h2
 have HO:=Lh (cmp_Or2 c1 c2)
 generalize (if c1=0 then c2 else c1)=r at *
 go_enter Tryz.func72,Tryz.ntmps72
 go_wp2_with fail
 refine wp_region_held_drew (S:=(fun w'=>w'.cell? ⟨w.heap.size,0,none⟩=some (.int .i64 a)∧w'.cell? ⟨w.heap.size,1,none⟩=some (.int .i64 b)∧w'.cell? ⟨w.heap.size+1,0,none⟩=some (.int .i64 a')∧w'.cell? ⟨w.heap.size+1,1,none⟩=some (.int .i64 b'))) (by kernel_rfl) ?_ (fun hHeld=>?_)
 ·simp [go_sem, *]
 refine tq 0 5 (.pointer (some ⟨w.heap.size,0,none⟩)) ?_
 refine tq 1 6 (.int .i64 a) ?_
 refine tq 2 7 (.pointer (some ⟨w.heap.size+1,0,none⟩)) ?_
 refine tq 3 8 (.int .i64 a') ?_
 refine tq 5 10 (.pointer (some ⟨w.heap.size,1,none⟩)) ?_
 refine tq 6 11 (.int .i64 b) ?_
 refine tq 7 12 (.pointer (some ⟨w.heap.size+1,1,none⟩)) ?_
 refine tq 8 13 (.int .i64 b') ?_
 refine rd 4 (fun K hK=>?_)
 go_simp
 (refine rtt (h1.out _) fun w1 hsz1 hc1 hf1 HG1=>?_;(try simp at hsz1);have hz1_0:w.heap.size<w1.heap.size:=(by omega);have hz1_1:w.heap.size+1<w1.heap.size:=(by omega))
 refine kO hK fun hQ1=>?_
 clear hK K hHeld
 refine rd 9 (fun K hK=>?_)
 go_simp
 (refine rtt (h2.out _) fun w2 hsz2 hc2 hf2 HG2=>?_;(try simp at hsz2);have hz2_0:w.heap.size<w2.heap.size:=(by omega);have hz2_1:w.heap.size+1<w2.heap.size:=(by omega))
 refine kO hK fun hQ2=>?_
 clear hK K hQ1
 refine rd 10 (fun K hK=>?_)
 go_simp
 refine kO hK fun hQ3=>?_
 clear hK K hQ2
 refine rd 11 (fun K hK=>?_)
 go_simp
 (refine rtt (HO.out _ _ _ (by simp [go_sem]) (by simp [go_sem]) (by simp)) fun w3 hsz3 hc3 hf3 HG3=>?_;(try simp at hsz3);have hz3_0:w.heap.size<w3.heap.size:=(by omega);have hz3_1:w.heap.size+1<w3.heap.size:=(by omega))
 refine kO hK fun hQ4=>?_
 clear hK K hQ3
 refine tq 12 4 (.int .i64 r) ?_
 refine wpAnyH_done (by kernel_rfl) ?_ _
 go_wp2
 go_ret
 exact⟨rfl,by exact gcc HG3 (gcc HG2 (gcc HG1 gzz))⟩
theorem ms_ordE (x y:Edg) (w:World):Calls Tryz.prog 72 #[eV x,eV y] w (Ret w (.int .i64 (ordE x y))):=ordE_raw (fun w=>cmp_Cmp x.a y.a w) (fun w=>cmp_Cmp x.b y.b w) w
set_option maxRecDepth 20000 in
theorem rimmed1_raw {a b l l':Int} (w:World):Calls Tryz.prog 142 #[.agg #[.int .i64 a,.int .i64 b,.int .i64 l],.agg #[.int .i64 a,.int .i64 b,.int .i64 l']] w (Ret w (.bool true)):=by
 have e1:∀x:Int,(x == x)=true:=fun x=>by simp
 go_enter Tryz.func142,Tryz.ntmps142
 go_wp2
 go_ret
 exact⟨by simp,by exact gzz⟩
set_option maxRecDepth 20000 in
theorem same_Side (l m:List Tri) (v u:Value) (w:World) (hS:SR triC 3 123 w 0 v l) (hU:SR triC 3 123 w 0 u m) (hlm:l.map (fun t=>(t.1,t.2.1))=m.map (fun t=>(t.1,t.2.1))):Calls Tryz.prog 141 #[v,u,.func (.func 142) #[] #[]] w (Ret w (.bool true)):=by
 obtain ⟨a,ca,rfl⟩:=hS.at
 obtain ⟨b,cb,rfl⟩:=hU.at
 have hl:=hS.len
 have hl2:(l.length:Int)≤9223372036854775807:=by simp only [maxLen]at hl;omega
 have hlen:l.length=m.length:=by have:=congrArg List.length hlm;simpa using this
 have HS:=Lh hS
 have HU:=Lh hU
 have HLM:=Lh hlm
 have HLEN:=Lh hlen
 rw [←hlen]
 clear hS hU hl hlm hlen
 go_enter Tryz.func141,Tryz.ntmps141
 go_wp2
 go_loopw [15] (fun s wr=> ∃n:Nat,s= .int .i64 n∧n≤l.length∧Gr w.heap.size w wr) (fun s _=>l.length - (intOf s).toNat)
 case atStart=>exact⟨0,rfl,Nat.zero_le _,Gr.refl _ _⟩
 case round=>
  obtain ⟨n,rfl,hn,hgr⟩:=hrel
  by_cases hlt:n<l.length
  ·obtain ⟨t,ht⟩:∃t,l[n]=t:=⟨_,rfl⟩
   have hltm:n<m.length:=HLEN.out ▸ hlt
   obtain ⟨s,hs⟩:∃s,m[n]=s:=⟨_,rfl⟩
   have hts:t.1=s.1∧t.2.1=s.2.1:=by
    have h:=congrArg (fun x=>x[n]?) HLM.out
    simp only [List.getElem?_map,List.getElem?_eq_getElem hlt,List.getElem?_eq_getElem hltm,Option.map_some,ht,hs,Option.some.injEq,Prod.mk.injEq]at h
    exact h
   obtain ⟨g,cap',e1,_,_,_,hsh,hR⟩:=(HS.out.gr hgr).block (by intro e;rw [e]at hlt;simp at hlt)
   injection e1 with e1 _ e2
   subst e1 e2
   obtain ⟨g',cap'',e1,_,_,_,hsh',hR'⟩:=(HU.out.gr hgr).block (by intro e;rw [e]at hltm;simp at hltm)
   injection e1 with e1 _ e2
   subst e1 e2
   obtain ⟨v0,v1,v2⟩:=hR.fTri hlt ht
   obtain ⟨u0,u1,u2⟩:=hR'.fTri hltm hs
   rw [←hts.1]at u0
   rw [←hts.2]at u1
   have HC:=Lh (fun w=>rimmed1_raw (a:=(t.1:Int)) (b:=(t.2.1:Int)) (l:=(t.2.2:Int)) (l':=(s.2.2:Int)) w)
   have HG:=Lh hgr
   have hszr:=hgr.size
   have hgl:=hsh.lt
   have hgl':=hsh'.lt
   clear hgr hR hsh hR' hsh' ht hs hts
   have q1:(n:Int)<(l.length:Int):=by omega
   go_wp2
   refine wp_region_held_drew (S:=(fun w'=>w'.cell? ⟨g,n*3,none⟩=some (.int .i64 (t.1:Int))∧w'.cell? ⟨g,n*3+1,none⟩=some (.int .i64 (t.2.1:Int))∧w'.cell? ⟨g,n*3+2,none⟩=some (.int .i64 (t.2.2:Int))∧w'.cell? ⟨g',n*3,none⟩=some (.int .i64 (t.1:Int))∧w'.cell? ⟨g',n*3+1,none⟩=some (.int .i64 (t.2.1:Int))∧w'.cell? ⟨g',n*3+2,none⟩=some (.int .i64 (s.2.2:Int)))) (by kernel_rfl) ?_ (fun hHeld=>?_)
   ·simp [go_sem, *]
   refine tq 0 18 (.func (.func 142) #[] #[]) ?_
   refine tq 1 19 (.slice (some ⟨g,0,none⟩) l.length ca) ?_
   refine tq 2 20 (.int .i64 (n:Int)) ?_
   refine tq 3 21 (.pointer (some ⟨g,n*3,none⟩)) ?_
   refine tq 4 22 (.agg #[.int .i64 (t.1:Int),.int .i64 (t.2.1:Int),.int .i64 (t.2.2:Int)]) ?_
   refine tq 5 23 (.slice (some ⟨g',0,none⟩) l.length cb) ?_
   refine tq 6 24 (.int .i64 (n:Int)) ?_
   refine tq 7 25 (.pointer (some ⟨g',n*3,none⟩)) ?_
   refine tq 8 26 (.agg #[.int .i64 (t.1:Int),.int .i64 (t.2.1:Int),.int .i64 (s.2.2:Int)]) ?_
   refine rd 9 (fun K hK=>?_)
   go_simp
   (refine rtu (HC.out _) fun w1 hsz1 hl1 hc1 hf1 HG1=>?_;(try simp at hsz1))
   refine kO hK fun hQ1=>?_
   clear hK K hHeld
   refine tq 10 28 (.bool false) ?_
   refine wpAnyH_done (by kernel_rfl) ?_ _
   go_wp2
   go_roundw
   case rel=>exact⟨n+1,by go_num,by omega,by exact gcc HG1 (gcc HG gzz)⟩
   case measure=>simp [intOf];omega
  ·obtain rfl:n=l.length:=by omega
   go_wp2
   go_ret
   exact⟨rfl,hgr⟩
end Go.Proofs.YtfgmdhjmgdccdaaGreat
namespace Go.Proofs.YtfgmdhjmgdccdaaGreat
open Go.RowKit Gus
theorem VB.ten {w:World} {g:Nat} {p:Pt} (h:VB w g (pC p)):w.cell? ⟨g,0,none⟩=some (vA p.x)∧w.cell? ⟨g,1,none⟩=some (vB p.x)∧w.cell? ⟨g,2,none⟩=some (vC p.x)∧w.cell? ⟨g,3,none⟩=some (vD p.x)∧w.cell? ⟨g,4,none⟩=some (vE p.x)∧
  w.cell? ⟨g,5,none⟩=some (vA p.y)∧w.cell? ⟨g,6,none⟩=some (vB p.y)∧w.cell? ⟨g,7,none⟩=some (vC p.y)∧w.cell? ⟨g,8,none⟩=some (vD p.y)∧w.cell? ⟨g,9,none⟩=some (vE p.y):=
 ⟨h.c 0 _ rfl,h.c 1 _ rfl,h.c 2 _ rfl,h.c 3 _ rfl,h.c 4 _ rfl,h.c 5 _ rfl,h.c 6 _ rfl,h.c 7 _ rfl,h.c 8 _ rfl,h.c 9 _ rfl⟩
set_option maxRecDepth 20000 in
set_option maxHeartbeats 4000000 in
theorem beyond1_raw {p q r:Pt} {s:Int} (gp gq:Nat) (w:World) (hP:VB w gp (pC p)) (hQ:VB w gq (pC q)) (hT:∀w,Calls Tryz.prog 130 #[pV p,pV q,pV r] w (Ret w (.int .i64 s))):
  Calls Tryz.prog 181 #[pV r,.pointer (some ⟨gp,0,none⟩),.pointer (some ⟨gq,0,none⟩)] w (Ret w (.bool (decide (0<s)))):=by
 have hT:=Lh hT
 have h1:=hP.lt
 have h2:=hQ.lt
 obtain ⟨a0,a1,a2,a3,a4,a5,a6,a7,a8,a9⟩:=hP.ten
 obtain ⟨b0,b1,b2,b3,b4,b5,b6,b7,b8,b9⟩:=hQ.ten
 clear hP hQ
 go_enter Tryz.func181,Tryz.ntmps181
 go_wp2_with fail
 (refine rtu (hT.out _) fun w1 hsz1 hl1 hc1 hf1 HG1=>?_;(try simp at hsz1))
 go_wp2
 go_ret
 exact⟨by simp,by exact gcc HG1 gzz⟩
theorem ms_beyond1 (p q r:Pt) (gp gq:Nat) (w:World) (hP:VB w gp (pC p)) (hQ:VB w gq (pC q)) (h1:hp p≤1000000000) (h2:hp q≤1000000000) (h3:hp r≤1000000000):
  Calls Tryz.prog 181 #[pV r,.pointer (some ⟨gp,0,none⟩),.pointer (some ⟨gq,0,none⟩)] w (Ret w (.bool (decide (0<turn p q r)))):=
 beyond1_raw gp gq w hP hQ fun w=>pt_Turn p q r w h1 h2 h3
def ordP (a b:Pt):Int:=if lessP a b then -1 else if lessP b a then 1 else 0
set_option maxRecDepth 20000 in
set_option maxHeartbeats 4000000 in
theorem once1_raw {a b:Pt} {u v:Bool} (h1:∀w,Calls Tryz.prog 135 #[pV a,pV b] w (Ret w (.bool u))) (h2:∀w,Calls Tryz.prog 135 #[pV b,pV a] w (Ret w (.bool v))) (w:World):
  Calls Tryz.prog 134 #[pV a,pV b] w (Ret w (.int .i64 (if u then -1 else if v then 1 else 0))):=by
 have h1:=Lh h1
 have h2:=Lh h2
 cases u
 ·cases v
  ·go_enter Tryz.func134,Tryz.ntmps134
   go_wp2_with fail
   (refine rtu (h1.out _) fun w1 hsz1 hl1 hc1 hf1 HG1=>?_;(try simp at hsz1))
   go_wp2_with fail
   (refine rtu (h2.out _) fun w2 hsz2 hl2 hc2 hf2 HG2=>?_;(try simp at hsz2))
   go_wp2
   go_ret
   exact⟨rfl,by exact gcc HG2 (gcc HG1 gzz)⟩
  ·go_enter Tryz.func134,Tryz.ntmps134
   go_wp2_with fail
   (refine rtu (h1.out _) fun w1 hsz1 hl1 hc1 hf1 HG1=>?_;(try simp at hsz1))
   go_wp2_with fail
   (refine rtu (h2.out _) fun w2 hsz2 hl2 hc2 hf2 HG2=>?_;(try simp at hsz2))
   go_wp2
   go_ret
   exact⟨rfl,by exact gcc HG2 (gcc HG1 gzz)⟩
 ·go_enter Tryz.func134,Tryz.ntmps134
  go_wp2_with fail
  (refine rtu (h1.out _) fun w1 hsz1 hl1 hc1 hf1 HG1=>?_;(try simp at hsz1))
  go_wp2
  go_ret
  exact⟨rfl,by exact gcc HG1 gzz⟩
theorem ms_once1 (a b:Pt) (w:World) (h1:hp a≤10000000000) (h2:hp b≤10000000000):Calls Tryz.prog 134 #[pV a,pV b] w (Ret w (.int .i64 (ordP a b))):=
 once1_raw (fun w=>pt_Less a b w h1 h2) (fun w=>pt_Less b a w h2 h1) w
end Go.Proofs.YtfgmdhjmgdccdaaGreat
namespace Go.Proofs.YtfgmdhjmgdccdaaGreat
open Go.RowKit Gus
abbrev qV (n:Int) (d:Nat):Value:= .agg #[.int .i64 n,.int .u32 d]
def qQ (n:Int) (d:Nat):Rat:=(n:Rat) / (((if d=0 then 1 else d:Nat):Int):Rat)
set_option maxRecDepth 20000 in
theorem Q_raw {n r:Int} {d e rq:Nat} (he:e=if d=0 then 1 else d) (hd:d<4294967296) (hO:∀w,Calls Tryz.prog 29 #[.int .i64 n,.int .i64 e] w (Ret w (.tuple #[frV r rq,.int .i64 0]))) (w:World):Calls Tryz.prog 23 #[qV n d] w (Ret w (frV r rq)):=by
 have hO:=Lh hO
 have he1:RowKit.wrap64 (max (d:Int) 1)=(e:Int):=by rw [←IntWalk.i64_left,IntKind.wrap_i64,he];split<;>omega
 have HE:=Lh he1
 clear he he1 hd
 go_enter Tryz.func23,Tryz.ntmps23
 go_wp2_with fail
 rw [HE.out]
 generalize max (d:Int) 1=mx at *
 (refine(hO.out _).mono ?_;rintro e w1 ⟨rfl,hg1⟩;(try (with_reducible replace hg1:=Gr.of_drew hg1));have hsz1:=hg1.size;(try simp at hsz1);have hz1_0:w.heap.size<w1.heap.size:=(by omega);have hz1_1:w.heap.size+1<w1.heap.size:=(by omega);obtain ⟨hc1,hf1⟩:=hg1.cells;have HG1:=Lh hg1;clear hg1)
 clear HE
 go_wp2
 refine ret_row (g:=w.heap.size+1) (cs:=frC r rq) Tryz.results23 rfl ?_ Tryz.underlying59 rfl info_Frac rfl ⟨rfl,?_⟩
 ·(with_reducible (repeat' (first|(refine VB.new' ?_;exact(by first|omega|(simp;done)|(simp;omega)))|apply VB.put2|apply VB.put3|apply VB.put5|refine VB.drew ?_|refine VB.far ?_ ?_ _|refine VB.alloc ?_ _|refine VB.gr ?_ HG1.out ?_|omega|(simp;done)|(simp;omega))))
 ·(with_reducible (repeat' (first|exact Gr.refl _ _|refine Gr.drew ?_|refine Gr.setCell ?_ ?_ _|refine Gr.alloc ?_ ?_ _|refine Gr.trans ?_ (Gr.mono HG1.out ?_)|omega|(simp;done)|(simp;omega))))
theorem q_Of (n:Int) (d:Nat) (w:World) (h1: -9223372036854775808≤n) (h2:n≤9223372036854775807) (hd:d<4294967296):Calls Tryz.prog 23 #[qV n d] w (Ret w (fracV (qQ n d))):=by
 refine Q_raw (e:=if d=0 then 1 else d) rfl hd (fun w=>?_) w
 exact fr_Of n ((if d=0 then 1 else d:Nat):Int) w h1 h2 (by split<;>omega) (by split<;>omega) (by split<;>omega)
abbrev q3V (a0:Int) (b0:Nat) (a1:Int) (b1:Nat) (a2:Int) (b2:Nat):Value:= .agg #[.int .i64 a0,.int .u32 b0,.int .i64 a1,.int .u32 b1,.int .i64 a2,.int .u32 b2]
theorem info_F3:(Tryz.prog.info? 261).map (·.size)=some 15:=by kernel_rfl
end Go.Proofs.YtfgmdhjmgdccdaaGreat
namespace Go.Proofs.YtfgmdhjmgdccdaaGreat
open Go.RowKit Gus
def plS (s:Nat→Int):Nat→Int
 | 0=>1
 | k+1=>plS s k+(if s k=0 then 1 else 0)
def whereS (s:Nat→Int):Int:=if s 0= -1∨s 1= -1∨s 2= -1 then 0 else plS s 3
theorem plS_b (s:Nat→Int):∀k,1≤plS s k∧plS s k≤k+1
 | 0=>⟨by simp [plS],by simp [plS]⟩
 | k+1=>by
  have:=plS_b s k
  simp only [plS]
  split<;>omega
set_option maxRecDepth 20000 in
theorem Where_raw {a b c p:Pt} {n0 n1 n2:Int} {m0 m1 m2:Nat} (s:Nat→Int) (hB:∀w,Calls Tryz.prog 183 #[pV a,pV b,pV c,pV p] w (Ret w (.tuple #[f3V n0 m0 n1 m1 n2 m2,.int .i64 0])))
  (h0:∀w,Calls Tryz.prog 88 #[frV n0 m0] w (Ret w (.int .i64 (s 0)))) (h1:∀w,Calls Tryz.prog 88 #[frV n1 m1] w (Ret w (.int .i64 (s 1)))) (h2:∀w,Calls Tryz.prog 88 #[frV n2 m2] w (Ret w (.int .i64 (s 2)))) (w:World):
  Calls Tryz.prog 140 #[pV a,pV b,pV c,pV p] w (Ret w (.int .i64 (whereS s))):=by
 have hB:=Lh hB
 have h0:=Lh h0
 have h1:=Lh h1
 have h2:=Lh h2
 have HW:=Lh (show whereS s=if s 0= -1∨s 1= -1∨s 2= -1 then 0 else plS s 3 from rfl)
 generalize whereS s=r at *
 go_enter Tryz.func140,Tryz.ntmps140
 go_wp2_with fail
 (refine rtu (hB.out _) fun w1 hsz1 hl1 hc1 hf1 HG1=>?_;(try simp at hsz1))
 have HC:=Lh (VB.new w1 [nA n0,nB n0,nC n0,nD m0,nE m0,nA n1,nB n1,nC n1,nD m1,nE m1,nA n2,nB n2,nC n2,nD m2,nE m2] 261)
 go_wp2
 go_loopw [11,23] (fun pl s' wr=> ∃k:Nat,k≤3∧s'= .int .i64 k∧Hid (pl= .int .i64 (plS s k))∧Hid (∀i,i<k→s i≠ -1)∧Hid (VB wr w1.heap.size [nA n0,nB n0,nC n0,nD m0,nE m0,nA n1,nB n1,nC n1,nD m1,nE m1,nA n2,nB n2,nC n2,nD m2,nE m2])∧Hid (Gr w.heap.size w wr)) (fun _ s' _=>3 - (intOf s').toNat)
 case atStart=>exact⟨0,by omega,rfl,Lh rfl,Lh (fun i h=>by omega),HC,Lh (by exact gcc HG1 gzz)⟩
 case round=>
  obtain ⟨k,hk,rfl,hpl,hne,HV,HG⟩:=hrel
  have hpl2:=hpl.out
  subst hpl2
  have hb:=plS_b s k
  have hlt1:=HV.out.lt
  have hszr:=HG.out.size
  by_cases hlt:k<3
  ·obtain ⟨n,m,hv,hcl⟩:∃(n:Int) (m:Nat),(wr.cell? ⟨w1.heap.size,k*5,none⟩=some (nA n)∧wr.cell? ⟨w1.heap.size,k*5+1,none⟩=some (nB n)∧wr.cell? ⟨w1.heap.size,k*5+2,none⟩=some (nC n)∧wr.cell? ⟨w1.heap.size,k*5+3,none⟩=some (nD m)∧wr.cell? ⟨w1.heap.size,k*5+4,none⟩=some (nE m))∧Hid (∀w,Calls Tryz.prog 88 #[frV n m] w (Ret w (.int .i64 (s k)))):=by
    rcases(show k=0∨k=1∨k=2 by omega)with rfl|rfl|rfl
    ·exact⟨n0,m0,⟨HV.out.c 0 _ rfl,HV.out.c 1 _ rfl,HV.out.c 2 _ rfl,HV.out.c 3 _ rfl,HV.out.c 4 _ rfl⟩,h0⟩
    ·exact⟨n1,m1,⟨HV.out.c 5 _ rfl,HV.out.c 6 _ rfl,HV.out.c 7 _ rfl,HV.out.c 8 _ rfl,HV.out.c 9 _ rfl⟩,h1⟩
    ·exact⟨n2,m2,⟨HV.out.c 10 _ rfl,HV.out.c 11 _ rfl,HV.out.c 12 _ rfl,HV.out.c 13 _ rfl,HV.out.c 14 _ rfl⟩,h2⟩
   obtain ⟨v0,v1,v2,v3,v4⟩:=hv
   have hk3:(k:Int)<3:=by omega
   have HE:Hid (plS s (k+1)=plS s k+(if s k=0 then 1 else 0)):=rfl
   have hpb:IntKind.i64.wrap (plS s k+1)=plS s k+1:=by rw [IntKind.wrap_i64];omega
   generalize hsk:s k=sk at hcl HE
   have HSK:=Lh hsk
   generalize plS s k=q at *
   clear hsk hb hpl
   by_cases e1:sk= -1
   ·subst e1
    go_wp2_with fail
    (refine rtu (hcl.out _) fun w2 hsz2 hl2 hc2 hf2 HG2=>?_;(try simp at hsz2))
    go_wp2
    go_ret
    have e:r=0:=by
     rw [HW.out]
     rcases(show k=0∨k=1∨k=2 by omega)with rfl|rfl|rfl
     ·rw [if_pos (.inl HSK.out)]
     ·rw [if_pos (.inr (.inl HSK.out))]
     ·rw [if_pos (.inr (.inr HSK.out))]
    exact⟨by rw [e];rfl,HG.out.trans (HG2.out.mono hszr)⟩
   ·by_cases e2:sk=0
    ·subst e2
     go_wp2_with fail
     (refine rtu (hcl.out _) fun w2 hsz2 hl2 hc2 hf2 HG2=>?_;(try simp at hsz2))
     go_wp2
     go_roundw
     case rel=>exact⟨k+1,by omega,by go_num,Lh (by rw [HE.out];simp),Lh (fun i hi=>by
      rcases Nat.lt_succ_iff_lt_or_eq.1 hi with h|h
      ·exact hne.out i h
      ·subst h;rw [HSK.out];omega),Lh (by exact vbc HG2 HV.out),Lh (HG.out.trans (HG2.out.mono hszr))⟩
     case measure=>simp [intOf];omega
    ·have b1:(sk == -1)=false:=by simp [e1]
     have b2:(sk == 0)=false:=by simp [e2]
     have HN:=Lh (And.intro e1 e2)
     clear e1 e2
     go_wp2_with fail
     (refine rtu (hcl.out _) fun w2 hsz2 hl2 hc2 hf2 HG2=>?_;(try simp at hsz2))
     go_wp2
     go_roundw
     case rel=>exact⟨k+1,by omega,by go_num,Lh (by rw [HE.out,if_neg HN.out.2];simp),Lh (fun i hi=>by
      rcases Nat.lt_succ_iff_lt_or_eq.1 hi with h|h
      ·exact hne.out i h
      ·subst h;rw [HSK.out];exact HN.out.1),Lh (by exact vbc HG2 HV.out),Lh (HG.out.trans (HG2.out.mono hszr))⟩
     case measure=>simp [intOf];omega
  ·obtain rfl:k=3:=by omega
   go_wp2
   go_ret
   have e:r=plS s 3:=by
    rw [HW.out,if_neg]
    rintro (h|h|h)
    ·exact hne.out 0 (by omega) h
    ·exact hne.out 1 (by omega) h
    ·exact hne.out 2 (by omega) h
   exact⟨by rw [e];rfl,HG.out⟩
end Go.Proofs.YtfgmdhjmgdccdaaGreat
