/-
  Part 38 of the proof: DofC.
-/
import Derived.Test.YtjijceliboaeaaaGreatDoorJ37
set_option linter.unusedSimpArgs false
set_option linter.unusedVariables false
namespace Go.Proofs.YtjijceliboaeaaaGreatDoor
open Go.RowKit Gus Go.Maps
noncomputable abbrev tlO (n:Nat):Code:=tailW n ((Tryz.f5).body.getD .skip)
def edgeNo (es:List Edg) (a b:Nat):Nat:=es.findIdx fun e=>e.a == ((min a b:Nat):Int) && e.b == ((max a b:Nat):Int)
def hasE (es:List Edg) (a b:Nat):Prop:= ∃e∈es,e.a=((min a b:Nat):Int)∧e.b=((max a b:Nat):Int)
theorem edgeNo_get {es:List Edg} {a b:Nat} (h:hasE es a b):∃e,es[edgeNo es a b]? =some e∧e.a=((min a b:Nat):Int)∧e.b=((max a b:Nat):Int):=by
 obtain ⟨e,he,h1,h2⟩:=h
 have hlt:edgeNo es a b<es.length:=List.findIdx_lt_length_of_exists ⟨e,he,by simp [h1,h2]⟩
 refine⟨es[edgeNo es a b],List.getElem?_eq_getElem hlt,?_⟩
 have:=List.findIdx_getElem (w:=hlt)
 rw [Bool.and_eq_true,beq_iff_eq,beq_iff_eq]at this
 exact this
def rowT (o n:Nat) (es:List Edg) (t:Tri):List Nat:= [t.1,t.2.1,t.2.2]++(if o=2 then [n+edgeNo es t.2.1 t.2.2,n+edgeNo es t.2.2 t.1,n+edgeNo es t.1 t.2.1]else [])
def rC (p:Nat×Nat):List Value:= [.slice (some ⟨p.1,0,none⟩) p.2 p.2]
theorem rC_len (p:Nat×Nat):(rC p).length=1:=rfl
theorem rC_one (p:Nat×Nat):∀v∈rC p,v.oneCell'=true:=by simp [rC,Value.oneCell']
def RWx (w:World) (B:Nat) (v:Value) (l:List (List Nat)):Prop:=
 ∃rs:List (Nat×Nat),SL rC 1 58 w B v rs∧rs.length=l.length∧∀(i:Nat) (p:Nat×Nat) (y:List Nat),rs[i]? =some p→l[i]? =some y→p.2=y.length∧B≤p.1∧v.ownBlock≠some p.1∧Shx w p.1 3∧RC iC 1 w p.1 y
def RWr (w:World) (B:Nat) (v:Value) (l:List (List Nat)):Prop:=
 ∃rs:List (Nat×Nat),SR rC 1 58 w B v rs∧rs.length=l.length∧∀(i:Nat) (p:Nat×Nat) (y:List Nat),rs[i]? =some p→l[i]? =some y→p.2=y.length∧B≤p.1∧Shx w p.1 3∧RC iC 1 w p.1 y
theorem RWx.nil {w:World} {B:Nat}:RWx w B (.slice none 0 0) []:=⟨[],SL.nil,rfl,by simp⟩
theorem Shx.kp {w w':World} {row:Option Nat} {g:Nat} {t:TypeId} (h:Shx w g t) (k:Kp w w' row) (hne:some g≠row):Shx w' g t:=by obtain ⟨N,h⟩:=h;exact⟨N,k.sh h hne⟩
theorem RWx.kp {w w':World} {row:Option Nat} {B:Nat} {v:Value} {l:List (List Nat)} (h:RWx w B v l) (k:Kp w w' row) (hr:∀g,row=some g→g<B):RWx w' B v l:=by
 obtain ⟨rs,h1,h2,h3⟩:=h
 refine⟨rs,k.sl h1 (fun g e e2=>by have:=h1.own_ge e;have:=hr g e2.symm;omega),h2,fun i p y hp hy=>?_⟩
 obtain ⟨a,b,c,d,e⟩:=h3 i p y hp hy
 have hne:some p.1≠row:=fun e2=>by have:=hr _ e2.symm;omega
 exact⟨a,b,c,d.kp k hne,k.rc e d.lt hne⟩
theorem RWx.push {w0 w1 w2:World} {B g:Nat} {v v':Value} {l:List (List Nat)} {rs:List (Nat×Nat)} {y:List Nat} (h2:rs.length=l.length)
  (h3:∀(i:Nat) (p:Nat×Nat) (y:List Nat),rs[i]? =some p→l[i]? =some y→p.2=y.length∧B≤p.1∧v.ownBlock≠some p.1∧Shx w0 p.1 3∧RC iC 1 w0 p.1 y) (hg0:Gr w0.heap.size w0 w1)
  (hS:SL rC 1 58 w2 B v' (rs++ [(g,y.length)])) (k:Kp w1 w2 v.ownBlock) (ho:v'.ownBlock=v.ownBlock∨v'.ownBlock=some w1.heap.size)
  (hg:B≤g) (hv:v.ownBlock≠some g) (hs:Shx w1 g 3) (hR:RC iC 1 w1 g y):RWx w2 B v' (l++ [y]):=by
 have key:∀(b:Nat) (x:List Nat),v.ownBlock≠some b→Shx w1 b 3→RC iC 1 w1 b x→v'.ownBlock≠some b∧Shx w2 b 3∧RC iC 1 w2 b x:=by
  intro b x hb h4 h5
  refine⟨?_,h4.kp k (fun e=>hb e.symm),k.rc h5 h4.lt (fun e=>hb e.symm)⟩
  rcases ho with e|e
  ·rw [e];exact hb
  ·rw [e];intro e2;have:=h4.lt;have:=Option.some.inj e2;omega
 refine⟨rs++ [(g,y.length)],hS,by simp [h2],fun i p x hp hx=>?_⟩
 rcases Nat.lt_trichotomy i rs.length with hi|hi|hi
 ·rw [List.getElem?_append_left hi]at hp
  rw [List.getElem?_append_left (by omega)]at hx
  obtain ⟨a,b,c,d,e⟩:=h3 i p x hp hx
  obtain ⟨c',d',e'⟩:=key p.1 x c (d.kp (hg0.kp none) (by simp)) (e.gr hg0 d.lt)
  exact⟨a,b,c',d',e'⟩
 ·rw [hi,List.getElem?_append_right (Nat.le_refl _)]at hp
  rw [hi,h2,List.getElem?_append_right (Nat.le_refl _)]at hx
  simp at hp hx
  subst hp hx
  obtain ⟨c',d',e'⟩:=key g y hv hs hR
  exact⟨rfl,hg,c',d',e'⟩
 ·rw [List.getElem?_eq_none (by simp;omega)]at hp
  cases hp
theorem RWx.done {w:World} {B:Nat} {a:Option Addr} {n c:Nat} {l:List (List Nat)} (h:RWx w B (.slice a n c) l):RWr w B (.slice a n n) l∧n=l.length:=by
 obtain ⟨rs,h1,h2,h3⟩:=h
 have hc:=h1.sr.cap
 refine⟨⟨rs,h1.sr.clip,h2,fun i p y hp hy=>?_⟩,by omega⟩
 obtain ⟨a,b,c,d,e⟩:=h3 i p y hp hy
 exact⟨a,b,d,e⟩
theorem RWr.kp {w w':World} {row:Option Nat} {B:Nat} {v:Value} {l:List (List Nat)} (h:RWr w B v l) (k:Kp w w' row) (hr:∀g,row=some g→g<B):RWr w' B v l:=by
 obtain ⟨rs,h1,h2,h3⟩:=h
 refine⟨rs,?_,h2,fun i p y hp hy=>?_⟩
 ·rcases h1 with h|⟨g,cap,e1,e2,e3,e4,e5,e6⟩
  ·exact .inl h
  ·have hne:some g≠row:=fun e=>by have:=hr _ e.symm;omega
   exact .inr ⟨g,cap,e1,e2,e3,e4,e5.kp k hne,k.rc e6 e5.lt hne⟩
 ·obtain ⟨a,b,d,e⟩:=h3 i p y hp hy
  have hne:some p.1≠row:=fun e2=>by have:=hr _ e2.symm;omega
  exact⟨a,b,d.kp k hne,k.rc e d.lt hne⟩
theorem RWr.mono {w:World} {B C:Nat} {v:Value} {l:List (List Nat)} (h:RWr w B v l) (hB:C≤B):RWr w C v l:=by
 obtain ⟨rs,h1,h2,h3⟩:=h
 refine⟨rs,h1.mono hB,h2,fun i p y hp hy=>?_⟩
 obtain ⟨a,b,d,e⟩:=h3 i p y hp hy
 exact⟨a,by omega,d,e⟩
theorem RWr.gr {w w':World} {B:Nat} {v:Value} {l:List (List Nat)} (h:RWr w B v l) (hg:Gr w.heap.size w w'):RWr w' B v l:=h.kp (hg.kp none) (by simp)
theorem SR.kp {α:Type} {enc:α→List Value} {k:Nat} {t:TypeId} {w w':World} {B:Nat} {v:Value} {l:List α} {row:Option Nat} (h:SR enc k t w B v l) (hk:Kp w w' row) (hr:∀g,v.ownBlock=some g→some g≠row):SR enc k t w' B v l:=by
 rcases h with h|⟨g,cap,e1,e2,e3,e4,e5,e6⟩
 ·exact .inl h
 ·have hne:some g≠row:=hr g (by rw [e1];rfl)
  exact .inr ⟨g,cap,e1,e2,e3,e4,e5.kp hk hne,hk.rc e6 e5.lt hne⟩
theorem edge_look {es:List Edg} {n a b mb:Nat} (h:hasE es a b) (ha:a<1000000) (hb:b<1000000) (he:es.length≤3000):∃k lo hi:Nat,k=n+edgeNo es a b∧k≤n+3000∧lo<1000000∧hi<1000000∧
  (∀W,Calls Tryz.prog 18 #[.int .i64 (a:Int),.int .i64 (b:Int)] W (Ret W (.agg #[.int .i64 (lo:Int),.int .i64 (hi:Int)])))∧
  (∀W,MIP W mb n es→(Instr.lookup 82 (.map (some mb)) (.agg #[.int .i64 (lo:Int),.int .i64 (hi:Int)]) false).run Tryz.prog W= .ok (.int .i64 (k:Int)) W):=by
 obtain ⟨e,he1,h1,h2⟩:=edgeNo_get h
 have hlt:=(List.getElem?_eq_some_iff.1 he1).1
 refine⟨_,min a b,max a b,rfl,by omega,by omega,by omega,fun W=>df_pair a b W,fun W hM=>?_⟩
 have hm:=numP_mem (n:=n) he1
 rw [h1,h2]at hm
 exact MI.look_some false hM keyed_P under_P (zeroInt _) (keyOf_P (by omega) (by omega)) hm
theorem own_cap {a:Option Addr} {n c n' c' g:Nat} (h:(Value.slice a n c).ownBlock=some g):(Value.slice a n' c').ownBlock=some g:=by
 cases a with
 | none=>simp [Value.ownBlock]at h
 | some a=>exact h
theorem info_Tab:(Tryz.prog.info? 36).map (·.size)=some 5:=by kernel_rfl
variable {v0 v1 v2 v3 v4 v5 v6 v7 v8 v9 v10 v11 v12 v13 v14 v15 v16 v17 v18 v19 v20 v21 v22 v23 v24 v25 v26 v27 v28 v29 v30 v31 v32 v33 v34 v35 v36 v37 v38 v39 v40 v41 v42 v43 v44 v45 v46 v47 v48 v49 v50 v51 v52 v53 v54 v55 v56 v57 v58 v59 v60 v61 v62 v63 v64 v65 v66 v67 v68 v69 v70 v71 v72 v73 v74 v75 v76 v77 v78 v79 v80 v81 v82 v83 v84 v85 v86 v87 v88 v89 v90 v91 v92 v93 v94 v95 v96 v97 v98 v99 v100 v101 v102 v103 v104 v105 v106 v107 v108 v109 v110 v111 v112 v113 v114 v115 v116 v117 v118 v119 v120 v121 v122 v123 v124 v125 v126 v127 v128 v129 v130 v131 v132 v133 v134 v135 v136 v137 v138 v139 v140 v141 v142 v143 v144 v145 v146 v147 v148 v149:Value}
set_option maxRecDepth 20000 in
set_option maxHeartbeats 8000000 in
theorem of17_2 (w W:World) (m:Msh) (es:List Edg) (N:Nat) (at_ aa an:Option Addr) (ct ca cn:Nat) (vp vs:Value) (pb mb:Nat) (als:List Pt) (nls:List (Int×Int)) (hG:Gr w.heap.size w W) (hX:VB W w.heap.size [vp,.slice at_ m.tris.length ct,vs]) (hR:VB W (w.heap.size+1) [.int .i64 0,.int .i64 0,.slice none 0 0,.slice none 0 0,.slice none 0 0]) (hT:VB W pb [.int .i64 2,.int .i64 (N:Int),.slice none 0 0,.slice aa als.length ca,.slice an nls.length cn]) (hpb:w.heap.size+1<pb) (hN:m.pts.length≤1000) (hTn:m.tris.length≤1000) (hen:es.length≤3000)
  (hA:SL pC 10 55 W (w.heap.size+1+1) (.slice aa als.length ca) als) (hNs:SL i2C 2 85 W (w.heap.size+1+1) (.slice an nls.length cn) nls) (hpA:(Value.slice aa als.length ca).ownBlock≠some pb) (hpN:(Value.slice an nls.length cn).ownBlock≠some pb) (hI:MIP W mb m.pts.length es) (hmb:mb≠pb) (hTr:SR triC 3 77 w 0 (.slice at_ m.tris.length ct) m.tris) (hl:∀t∈m.tris,t.1<m.pts.length∧t.2.1<m.pts.length∧t.2.2<m.pts.length∧hasE es t.2.1 t.2.2∧hasE es t.2.2 t.1∧hasE es t.1 t.2.1):
  Code.wp Tryz.prog (tlO 17) (bodyPost Tryz.prog Tryz.f5 (fun e w'=> ∃x y z,e= .returned (.tuple #[.agg #[.int .i64 2,.int .i64 (N:Int),x,y,z],.int .i64 0])∧RWr w' w.heap.size x (m.tris.map (rowT 2 m.pts.length es))∧SR pC 10 55 w' w.heap.size y als∧SR i2C 2 85 w' w.heap.size z nls∧Gr w.heap.size w w')) {tmps:= #[v0,.int .i64 2,.pointer (some ⟨w.heap.size,0,none⟩),v3,.pointer (some ⟨w.heap.size+1,0,none⟩),v5,v6,.pointer (some ⟨pb,0,none⟩),.map (some mb),v9,v10,v11,v12,v13,v14,v15,v16,v17,v18,v19,v20,v21,v22,v23,v24,v25,v26,v27,v28,v29,v30,v31,v32,v33,v34,v35,v36,v37,v38,v39,v40,v41,v42,v43,v44,v45,v46,v47,v48,v49,v50,v51,v52,v53,v54,v55,v56,v57,v58,v59,v60,v61,v62,v63,v64,v65,v66,v67,v68,v69,v70,v71,v72,v73,v74,v75,v76,v77,v78,v79,v80,v81,v82,v83,v84,v85,v86,v87,v88,v89,v90,v91,v92,v93,v94,v95,v96,v97,v98,v99,v100,v101,v102,v103,v104,v105,v106,v107,v108,v109,v110,v111,v112,v113,v114,v115,v116,v117,v118,v119,v120,v121,v122,v123,v124,v125,v126,v127,v128,v129,v130,v131,v132,v133,v134,v135,v136,v137,v138,v139,v140,v141,v142,v143,v144,v145,v146,v147,v148,v149],defers:= []} W:=by
 have HG:=Lib.hid hG
 have HX:=Lib.hid hX
 have HR:=Lib.hid hR
 have HT:=Lib.hid hT
 have HA:=Lib.hid hA
 have HN:=Lib.hid hNs
 have HPA:=Lib.hid hpA
 have HPN:=Lib.hid hpN
 have HI:=Lib.hid hI
 have HTR:=Lib.hid hTr
 have HL:=Lib.hid hl
 have HMB:=Lib.hid hmb
 have hlA:=hA.len
 have hlN:=hNs.len
 have cA:=hA.sr.cap
 have cN:=hNs.sr.cap
 have hml:=hI.lt
 have hTl:=hT.lt
 have hXl:=hX.lt
 have hRl:=hR.lt
 obtain ⟨x0,x1,x2,-,-,-⟩:=hX.three
 clear hG hX hR hT hA hNs hpA hpN hI hTr hl hmb
 obtain ⟨i0,hi,hz0,hz1,hz2⟩:=info_parts info_bInts
 have HI0:=Lib.hid (And.intro hi (And.intro hz0 (And.intro hz1 hz2)))
 clear hi hz0 hz1 hz2
 obtain ⟨i1,hi,hz0,hz1,hz2⟩:=info_parts info_bInt1
 have HI1:=Lib.hid (And.intro hi (And.intro hz0 (And.intro hz1 hz2)))
 clear hi hz0 hz1 hz2
 refine wp_seq_k (fun K hK=>?_)
 go_wp2
 go_loopw [94] (fun s wr=> ∃(j:Nat) (x:Value),j≤m.tris.length∧s= .int .i64 j∧Hid (VB wr pb [.int .i64 2,.int .i64 (N:Int),x,.slice aa als.length ca,.slice an nls.length cn])∧Hid (RWx wr W.heap.size x ((m.tris.take j).map (rowT 2 m.pts.length es)))∧Hid (Kp W wr (some pb))) (fun s _=>m.tris.length - (intOf s).toNat)
 case atStart=>exact⟨0,_,Nat.zero_le _,rfl,HT,Lib.hid RWx.nil,Lib.hid ((Gr.refl _ _).kp _)⟩
 case round=>
  clear HT x0 x1 x2
  obtain ⟨j,x,hj,rfl,HT,HW,HK⟩:=hrel
  obtain ⟨acc,hacc⟩:∃q,(m.tris.take j).map (rowT 2 m.pts.length es)=q:=⟨_,rfl⟩
  rw [hacc]at HW
  have hal:acc.length=j:=by rw [←hacc];simp;omega
  replace hacc:=Lib.hid hacc
  obtain ⟨rs,hS,hrl,hrs⟩:=HW.out
  have HS:=Lib.hid hS
  have HRS:=Lib.hid hrs
  obtain ⟨ax,cx,rfl⟩:=hS.at
  have cX:=hS.sr.cap
  clear hS hrs
  have hrn:rs.length≤1000:=by omega
  have hrj:=Lib.hid (show rs.length=j by omega)
  have hra:=Lib.hid hrl
  have haj:=Lib.hid hal
  clear hrl hal
  have hszr:=HK.out.g.size
  have hTl2:=HT.out.lt
  have HXr:=Lib.hid (HX.out.kp HK.out (fun e=>by have:=Option.some.inj e;omega))
  have HRr:=Lib.hid (HR.out.kp HK.out (fun e=>by have:=Option.some.inj e;omega))
  have HIr:=Lib.hid (HI.out.kp HK.out (fun e=>HMB.out (Option.some.inj e)))
  by_cases hlt:j<m.tris.length
  ·have q0:(j:Int)<(m.tris.length:Int):=by omega
   obtain ⟨t,ht⟩:∃t,m.tris[j]=t:=⟨_,rfl⟩
   obtain ⟨l1,l2,l3,e12,e20,e01⟩:=HL.out t (ht ▸ List.getElem_mem hlt)
   obtain ⟨gt,ct',e4,_,_,_,hsh,hR⟩:=HTR.out.block (by intro e;rw [e]at hlt;simp at hlt)
   injection e4 with e4 _ e5
   subst e4 e5
   have hgl:=hsh.lt
   obtain ⟨u0,u1,u2⟩:=((hR.gr HG.out hgl).fTri hlt ht)
   have hgw:gt<W.heap.size:=by have:=HG.out.size;omega
   have hgp:gt≠pb:=by omega
   rw [←HK.out.cell (b:=gt) (o:=j*3) hgw (fun e=>hgp (Option.some.inj e))]at u0
   rw [←HK.out.cell (b:=gt) (o:=j*3+1) hgw (fun e=>hgp (Option.some.inj e))]at u1
   rw [←HK.out.cell (b:=gt) (o:=j*3+2) hgw (fun e=>hgp (Option.some.inj e))]at u2
   clear hR hsh
   have hgr:gt<wr.heap.size:=by omega
   obtain ⟨rw_,hrw⟩:∃q,rowT 2 m.pts.length es t=q:=⟨_,rfl⟩
   have hnext:Hid ((m.tris.take (j+1)).map (rowT 2 m.pts.length es)=acc++ [rw_]):=Lib.hid (by rw [List.take_add_one,List.getElem?_eq_getElem hlt,ht,List.map_append,hacc.out,←hrw];rfl)
   obtain ⟨k0,lo0,hi0,ek0,bk0,bl0,bh0,pr0,lk0⟩:=edge_look (n:=m.pts.length) (mb:=mb) e12 (by omega) (by omega) hen
   replace pr0:=Lib.hid pr0
   replace lk0:=Lib.hid lk0
   obtain ⟨k1,lo1,hi1,ek1,bk1,bl1,bh1,pr1,lk1⟩:=edge_look (n:=m.pts.length) (mb:=mb) e20 (by omega) (by omega) hen
   replace pr1:=Lib.hid pr1
   replace lk1:=Lib.hid lk1
   obtain ⟨k2,lo2,hi2,ek2,bk2,bl2,bh2,pr2,lk2⟩:=edge_look (n:=m.pts.length) (mb:=mb) e01 (by omega) (by omega) hen
   replace pr2:=Lib.hid pr2
   replace lk2:=Lib.hid lk2
   have hrw2:rw_= [t.1,t.2.1,t.2.2,k0,k1,k2]:=by rw [←hrw,ek0,ek1,ek2];rfl
   clear e12 e20 e01 ek0 ek1 ek2
   clear ht hrw
   have hrw3:=Lib.hid hrw2
   clear hrw2
   obtain ⟨wo,hwo⟩:∃q,q=wr:=⟨_,rfl⟩
   subst hwo
   have hw1:wo.heap.size<wo.heap.size+1+1:=by omega
   have HB1:=Lib.hid (show VB ((wo.alloc (.cells #[.int .i64 (t.1:Int),.int .i64 (t.2.1:Int),.int .i64 (t.2.2:Int)] 77)).alloc (.cells #[.int .i64 (t.1:Int),.int .i64 (t.2.1:Int),.int .i64 (t.2.2:Int)] 3)) wo.heap.size [.int .i64 (t.1:Int),.int .i64 (t.2.1:Int),.int .i64 (t.2.2:Int)]from by(with_reducible (repeat' (first|(refine VB.new' ?_;exact(by first|omega|(simp;done)|(simp;omega)))|apply VB.put2|apply VB.put3|apply VB.put5|refine VB.drew ?_|refine VB.far ?_ ?_ _|refine VB.alloc ?_ _|omega|(simp;done)|(simp;omega)))))
   have HV1:=Lib.hid (show SL iC 1 3 ((wo.alloc (.cells #[.int .i64 (t.1:Int),.int .i64 (t.2.1:Int),.int .i64 (t.2.2:Int)] 77)).alloc (.cells #[.int .i64 (t.1:Int),.int .i64 (t.2.1:Int),.int .i64 (t.2.2:Int)] 3)) (wo.heap.size+1) (.slice (some ⟨wo.heap.size+1,0,none⟩) 3 3) [t.1,t.2.1,t.2.2]from SL.new' (l:= [t.1,t.2.1,t.2.2]) iC_len _ rfl (by simp) (by omega) (by simp [maxLen]) rfl)
   have HG1:=Lib.hid (show Gr wo.heap.size wo ((wo.alloc (.cells #[.int .i64 (t.1:Int),.int .i64 (t.2.1:Int),.int .i64 (t.2.2:Int)] 77)).alloc (.cells #[.int .i64 (t.1:Int),.int .i64 (t.2.1:Int),.int .i64 (t.2.2:Int)] 3))from by(with_reducible (repeat' (first|exact Gr.refl _ _|refine Gr.drew ?_|refine Gr.setCell ?_ ?_ _|refine Gr.alloc ?_ ?_ _|omega|(simp;done)|(simp;omega)))))
   have hs1:((wo.alloc (.cells #[.int .i64 (t.1:Int),.int .i64 (t.2.1:Int),.int .i64 (t.2.2:Int)] 77)).alloc (.cells #[.int .i64 (t.1:Int),.int .i64 (t.2.1:Int),.int .i64 (t.2.2:Int)] 3)).heap.size=wo.heap.size+1+1:=by simp
   go_wp2
   generalize ((wo.alloc (.cells #[.int .i64 (t.1:Int),.int .i64 (t.2.1:Int),.int .i64 (t.2.2:Int)] 77)).alloc (.cells #[.int .i64 (t.1:Int),.int .i64 (t.2.1:Int),.int .i64 (t.2.2:Int)] 3))=w1 at *
   have hs2:wo.heap.size+1+1≤w1.heap.size:=by omega
   clear hs1
   go_loopw [13,14] (fun v s wq=> ∃(i:Nat),i≤3∧s= .int .i64 i∧Hid (SL iC 1 3 wq (wo.heap.size+1) v (rw_.take (3+i)))∧Hid (Gr (wo.heap.size+1) w1 wq)) (fun _ s _=>3 - (intOf s).toNat)
   case atStart=>exact⟨0,by omega,rfl,Lib.hid (by rw [hrw3.out];exact HV1.out),Lib.hid (Gr.refl _ _)⟩
   case round=>
    clear HV1
    obtain ⟨i,hi,rfl,HV,HQ⟩:=hrel
    have hszq:=HQ.out.size
    have HB:=Lib.hid (HB1.out.gr HQ.out (by omega))
    have HIq:=Lib.hid (HIr.out.gr (B:=wo.heap.size) (HG1.out.trans (HQ.out.mono (by omega))) HIr.out.lt)
    have q6:IntKind.i64.wrap ((i:Int)+1)=((i+1:Nat):Int):=by rw [wrap64_id (by omega) (by omega)];omega
    have hbl:wo.heap.size<wr.heap.size:=by omega
    have wl1:IntKind.i64.wrap 1=1:=wrap64_id (by omega) (by omega)
    have wl2:IntKind.i64.wrap 2=2:=wrap64_id (by omega) (by omega)
    have wl3:IntKind.i64.wrap 3=3:=wrap64_id (by omega) (by omega)
    have wl4:IntKind.i64.wrap 4=4:=wrap64_id (by omega) (by omega)
    by_cases hi3:i<3
    ·obtain ⟨c0,c1,c2,-,-,-⟩:=HB.out.three
     rcases(show i=0∨i=1∨i=2 by omega)with rfl|rfl|rfl
     ·skip
      have HV2:=HV.out
      rw [show rw_.take (3+0)= [t.1,t.2.1,t.2.2] by rw [hrw3.out];rfl]at HV2
      obtain ⟨rl,hrl⟩:∃q,[t.1,t.2.1,t.2.2]=q:=⟨_,rfl⟩
      rw [hrl]at HV2
      have hrn2:rl.length≤6:=by rw [←hrl];simp
      replace hrl:=Lib.hid hrl
      obtain ⟨av,cv,rfl⟩:=HV2.at
      replace HV2:=Lib.hid HV2
      clear HV
      go_upto_region 24 with fail
      refine wp_region_held_drew (S:=(fun w'=>w'.cell? ⟨wo.heap.size,0,none⟩=some (.int .i64 (t.1:Int))∧w'.cell? ⟨wo.heap.size,1,none⟩=some (.int .i64 (t.2.1:Int))∧w'.cell? ⟨wo.heap.size,2,none⟩=some (.int .i64 (t.2.2:Int)))) (by kernel_rfl) ?_ (fun hHeld=>?_)
      ·simp [go_sem, *]
      refine tk 0 (some 113) (.slice av rl.length cv) ?_
      try simp only [pS]
      refine tk 1 (some 114) (.map (some mb)) ?_
      try simp only [pS]
      refine tk 2 (some 115) (.int .i64 0) ?_
      try simp only [pS]
      refine tk 3 (some 116) (.int .i64 1) ?_
      try simp only [pS]
      refine tk 4 (some 117) (.int .i64 1) ?_
      try simp only [pS]
      refine tk 5 (some 118) (.pointer (some ⟨wo.heap.size,1,none⟩)) ?_
      try simp only [pS]
      refine tk 6 (some 119) (.int .i64 (t.2.1:Int)) ?_
      try simp only [pS]
      refine tk 7 (some 120) (.int .i64 0) ?_
      try simp only [pS]
      refine tk 8 (some 121) (.int .i64 2) ?_
      try simp only [pS]
      refine tk 9 (some 122) (.int .i64 2) ?_
      try simp only [pS]
      refine tk 10 (some 123) (.pointer (some ⟨wo.heap.size,2,none⟩)) ?_
      try simp only [pS]
      refine tk 11 (some 124) (.int .i64 (t.2.2:Int)) ?_
      try simp only [pS]
      refine rd 12 (fun K hK=>?_)
      go_simp
      (refine(pr0.out _).mono ?_;rintro e w5 ⟨rfl,hg5⟩;(try (with_reducible replace hg5:=Gr.of_drew hg5));have hsz5:=hg5.size;(try simp at hsz5);have hy5_0:wo.heap.size<w5.heap.size:=(by omega);obtain ⟨hc5,hf5⟩:=hg5.cells;have HG5:=Lib.hid hg5;clear hg5)
      (try dsimp only)
      refine hK.out _ _ ?_ (fun hQ1=>?_)
      ·(first|exact trivial|((try dsimp only);simp [go_sem, *]))
      clear hK K hHeld
      try simp only [pS]
      have hlk5:=lk0.out w5 (HIq.out.gr (B:=wr.heap.size) (by(with_reducible (repeat' (first|exact Gr.refl _ _|refine Gr.drew ?_|refine Gr.setCell ?_ ?_ _|refine Gr.alloc ?_ ?_ _|refine Gr.trans ?_ (Gr.mono HG5.out ?_)|omega|(simp;done)|(simp;omega))))) HIq.out.lt)
      refine rd 13 (fun K hK=>?_)
      go_simp
      (try dsimp only)
      refine hK.out _ _ ?_ (fun hQ2=>?_)
      ·(first|exact trivial|((try dsimp only);simp [go_sem, *]))
      clear hK K hQ1
      try simp only [pS]
      clear hlk5
      refine rd 14 (fun K hK=>?_)
      go_simp
      (try dsimp only)
      refine hK.out _ _ ?_ (fun hQ3=>?_)
      ·(first|exact trivial|((try dsimp only);simp [go_sem, *]))
      clear hK K hQ2
      try simp only [pS]
      refine rd 15 (fun K hK=>?_)
      rw [if_pos (by rfl)]
      refine wp_appS _ _ _ 58 rfl (wo.heap.size+1) i1 _ 8 Tryz.underlying58 HI1.out.1 HI1.out.2.1 HI1.out.2.2.1 HI1.out.2.2.2 rfl (by decide) iC_len iC_one (.slice av rl.length cv) rl rfl (HV2.out.gr (by(with_reducible (repeat' (first|exact Gr.refl _ _|refine Gr.drew ?_|refine Gr.setCell ?_ ?_ _|refine Gr.alloc ?_ ?_ _|refine Gr.trans ?_ (Gr.mono HG5.out ?_)|omega|(simp;done)|(simp;omega)))))) w5.heap.size 1 [k0] 1 rfl rfl (by first|exact RC.new1 rfl|exact RC.drew (RC.new1 rfl)) (by unfold maxLen;simp;omega) (by simp;omega) (by simp;omega) ?_
      intro v6 w6 hS6 hkp6 _
      have HK6:=Lib.hid ((show Gr (wo.heap.size+1) wr _ from by(with_reducible (repeat' (first|exact Gr.refl _ _|refine Gr.drew ?_|refine Gr.setCell ?_ ?_ _|refine Gr.alloc ?_ ?_ _|refine Gr.trans ?_ (Gr.mono HG5.out ?_)|omega|(simp;done)|(simp;omega))))).trans (hkp6.gr (B:=wo.heap.size+1) (fun b e=>HV2.out.own_ge e) (by simp;omega)))
      have hb6:=HB.out.gr HK6.out (by omega)
      obtain ⟨pa6,pc6,e6⟩:=hS6.at
      have HS6:=Lib.hid hS6
      obtain ⟨n6,hn6⟩:∃n,(rl++ [k0]).length=n:=⟨_,rfl⟩
      rw [hn6]at e6
      subst e6
      clear hn6 hS6 hkp6
      refine hK.out _ _ ?_ (fun hQ9=>?_)
      ·exact⟨hb6.c 0 _ rfl,hb6.c 1 _ rfl,hb6.c 2 _ rfl⟩
      clear hK K hQ3
      try simp only [pS]
      refine rd 16 (fun K hK=>?_)
      go_simp
      (try dsimp only)
      refine hK.out _ _ ?_ (fun hQ10=>?_)
      ·(first|exact trivial|((try dsimp only);simp [go_sem, *]))
      clear hK K hQ9
      try simp only [pS]
      refine wpAnyH_done (by kernel_rfl) ?_ _
      go_wp2
      go_roundw
      case rel=>exact⟨1,by omega,by go_num,Lib.hid (by rw [show rw_.take (3+1)= [t.1,t.2.1,t.2.2,k0] by rw [hrw3.out];rfl];have:=HS6.out;rw [←hrl.out]at this;exact this),Lib.hid (HQ.out.trans HK6.out)⟩
      case measure=>simp [intOf]
     ·skip
      have HV2:=HV.out
      rw [show rw_.take (3+1)= [t.1,t.2.1,t.2.2,k0] by rw [hrw3.out];rfl]at HV2
      obtain ⟨rl,hrl⟩:∃q,[t.1,t.2.1,t.2.2,k0]=q:=⟨_,rfl⟩
      rw [hrl]at HV2
      have hrn2:rl.length≤6:=by rw [←hrl];simp
      replace hrl:=Lib.hid hrl
      obtain ⟨av,cv,rfl⟩:=HV2.at
      replace HV2:=Lib.hid HV2
      clear HV
      go_upto_region 24 with fail
      refine wp_region_held_drew (S:=(fun w'=>w'.cell? ⟨wo.heap.size,0,none⟩=some (.int .i64 (t.1:Int))∧w'.cell? ⟨wo.heap.size,1,none⟩=some (.int .i64 (t.2.1:Int))∧w'.cell? ⟨wo.heap.size,2,none⟩=some (.int .i64 (t.2.2:Int)))) (by kernel_rfl) ?_ (fun hHeld=>?_)
      ·simp [go_sem, *]
      refine tk 0 (some 113) (.slice av rl.length cv) ?_
      try simp only [pS]
      refine tk 1 (some 114) (.map (some mb)) ?_
      try simp only [pS]
      refine tk 2 (some 115) (.int .i64 1) ?_
      try simp only [pS]
      refine tk 3 (some 116) (.int .i64 2) ?_
      try simp only [pS]
      refine tk 4 (some 117) (.int .i64 2) ?_
      try simp only [pS]
      refine tk 5 (some 118) (.pointer (some ⟨wo.heap.size,2,none⟩)) ?_
      try simp only [pS]
      refine tk 6 (some 119) (.int .i64 (t.2.2:Int)) ?_
      try simp only [pS]
      refine tk 7 (some 120) (.int .i64 1) ?_
      try simp only [pS]
      refine tk 8 (some 121) (.int .i64 3) ?_
      try simp only [pS]
      refine tk 9 (some 122) (.int .i64 0) ?_
      try simp only [pS]
      refine tk 10 (some 123) (.pointer (some ⟨wo.heap.size,0,none⟩)) ?_
      try simp only [pS]
      refine tk 11 (some 124) (.int .i64 (t.1:Int)) ?_
      try simp only [pS]
      refine rd 12 (fun K hK=>?_)
      go_simp
      (refine(pr1.out _).mono ?_;rintro e w5 ⟨rfl,hg5⟩;(try (with_reducible replace hg5:=Gr.of_drew hg5));have hsz5:=hg5.size;(try simp at hsz5);have hy5_0:wo.heap.size<w5.heap.size:=(by omega);obtain ⟨hc5,hf5⟩:=hg5.cells;have HG5:=Lib.hid hg5;clear hg5)
      (try dsimp only)
      refine hK.out _ _ ?_ (fun hQ1=>?_)
      ·(first|exact trivial|((try dsimp only);simp [go_sem, *]))
      clear hK K hHeld
      try simp only [pS]
      have hlk5:=lk1.out w5 (HIq.out.gr (B:=wr.heap.size) (by(with_reducible (repeat' (first|exact Gr.refl _ _|refine Gr.drew ?_|refine Gr.setCell ?_ ?_ _|refine Gr.alloc ?_ ?_ _|refine Gr.trans ?_ (Gr.mono HG5.out ?_)|omega|(simp;done)|(simp;omega))))) HIq.out.lt)
      refine rd 13 (fun K hK=>?_)
      go_simp
      (try dsimp only)
      refine hK.out _ _ ?_ (fun hQ2=>?_)
      ·(first|exact trivial|((try dsimp only);simp [go_sem, *]))
      clear hK K hQ1
      try simp only [pS]
      clear hlk5
      refine rd 14 (fun K hK=>?_)
      go_simp
      (try dsimp only)
      refine hK.out _ _ ?_ (fun hQ3=>?_)
      ·(first|exact trivial|((try dsimp only);simp [go_sem, *]))
      clear hK K hQ2
      try simp only [pS]
      refine rd 15 (fun K hK=>?_)
      rw [if_pos (by rfl)]
      refine wp_appS _ _ _ 58 rfl (wo.heap.size+1) i1 _ 8 Tryz.underlying58 HI1.out.1 HI1.out.2.1 HI1.out.2.2.1 HI1.out.2.2.2 rfl (by decide) iC_len iC_one (.slice av rl.length cv) rl rfl (HV2.out.gr (by(with_reducible (repeat' (first|exact Gr.refl _ _|refine Gr.drew ?_|refine Gr.setCell ?_ ?_ _|refine Gr.alloc ?_ ?_ _|refine Gr.trans ?_ (Gr.mono HG5.out ?_)|omega|(simp;done)|(simp;omega)))))) w5.heap.size 1 [k1] 1 rfl rfl (by first|exact RC.new1 rfl|exact RC.drew (RC.new1 rfl)) (by unfold maxLen;simp;omega) (by simp;omega) (by simp;omega) ?_
      intro v6 w6 hS6 hkp6 _
      have HK6:=Lib.hid ((show Gr (wo.heap.size+1) wr _ from by(with_reducible (repeat' (first|exact Gr.refl _ _|refine Gr.drew ?_|refine Gr.setCell ?_ ?_ _|refine Gr.alloc ?_ ?_ _|refine Gr.trans ?_ (Gr.mono HG5.out ?_)|omega|(simp;done)|(simp;omega))))).trans (hkp6.gr (B:=wo.heap.size+1) (fun b e=>HV2.out.own_ge e) (by simp;omega)))
      have hb6:=HB.out.gr HK6.out (by omega)
      obtain ⟨pa6,pc6,e6⟩:=hS6.at
      have HS6:=Lib.hid hS6
      obtain ⟨n6,hn6⟩:∃n,(rl++ [k1]).length=n:=⟨_,rfl⟩
      rw [hn6]at e6
      subst e6
      clear hn6 hS6 hkp6
      refine hK.out _ _ ?_ (fun hQ9=>?_)
      ·exact⟨hb6.c 0 _ rfl,hb6.c 1 _ rfl,hb6.c 2 _ rfl⟩
      clear hK K hQ3
      try simp only [pS]
      refine rd 16 (fun K hK=>?_)
      go_simp
      (try dsimp only)
      refine hK.out _ _ ?_ (fun hQ10=>?_)
      ·(first|exact trivial|((try dsimp only);simp [go_sem, *]))
      clear hK K hQ9
      try simp only [pS]
      refine wpAnyH_done (by kernel_rfl) ?_ _
      go_wp2
      go_roundw
      case rel=>exact⟨2,by omega,by go_num,Lib.hid (by rw [show rw_.take (3+2)= [t.1,t.2.1,t.2.2,k0,k1] by rw [hrw3.out];rfl];have:=HS6.out;rw [←hrl.out]at this;exact this),Lib.hid (HQ.out.trans HK6.out)⟩
      case measure=>simp [intOf]
     ·skip
      have HV2:=HV.out
      rw [show rw_.take (3+2)= [t.1,t.2.1,t.2.2,k0,k1] by rw [hrw3.out];rfl]at HV2
      obtain ⟨rl,hrl⟩:∃q,[t.1,t.2.1,t.2.2,k0,k1]=q:=⟨_,rfl⟩
      rw [hrl]at HV2
      have hrn2:rl.length≤6:=by rw [←hrl];simp
      replace hrl:=Lib.hid hrl
      obtain ⟨av,cv,rfl⟩:=HV2.at
      replace HV2:=Lib.hid HV2
      clear HV
      go_upto_region 24 with fail
      refine wp_region_held_drew (S:=(fun w'=>w'.cell? ⟨wo.heap.size,0,none⟩=some (.int .i64 (t.1:Int))∧w'.cell? ⟨wo.heap.size,1,none⟩=some (.int .i64 (t.2.1:Int))∧w'.cell? ⟨wo.heap.size,2,none⟩=some (.int .i64 (t.2.2:Int)))) (by kernel_rfl) ?_ (fun hHeld=>?_)
      ·simp [go_sem, *]
      refine tk 0 (some 113) (.slice av rl.length cv) ?_
      try simp only [pS]
      refine tk 1 (some 114) (.map (some mb)) ?_
      try simp only [pS]
      refine tk 2 (some 115) (.int .i64 2) ?_
      try simp only [pS]
      refine tk 3 (some 116) (.int .i64 3) ?_
      try simp only [pS]
      refine tk 4 (some 117) (.int .i64 0) ?_
      try simp only [pS]
      refine tk 5 (some 118) (.pointer (some ⟨wo.heap.size,0,none⟩)) ?_
      try simp only [pS]
      refine tk 6 (some 119) (.int .i64 (t.1:Int)) ?_
      try simp only [pS]
      refine tk 7 (some 120) (.int .i64 2) ?_
      try simp only [pS]
      refine tk 8 (some 121) (.int .i64 4) ?_
      try simp only [pS]
      refine tk 9 (some 122) (.int .i64 1) ?_
      try simp only [pS]
      refine tk 10 (some 123) (.pointer (some ⟨wo.heap.size,1,none⟩)) ?_
      try simp only [pS]
      refine tk 11 (some 124) (.int .i64 (t.2.1:Int)) ?_
      try simp only [pS]
      refine rd 12 (fun K hK=>?_)
      go_simp
      (refine(pr2.out _).mono ?_;rintro e w5 ⟨rfl,hg5⟩;(try (with_reducible replace hg5:=Gr.of_drew hg5));have hsz5:=hg5.size;(try simp at hsz5);have hy5_0:wo.heap.size<w5.heap.size:=(by omega);obtain ⟨hc5,hf5⟩:=hg5.cells;have HG5:=Lib.hid hg5;clear hg5)
      (try dsimp only)
      refine hK.out _ _ ?_ (fun hQ1=>?_)
      ·(first|exact trivial|((try dsimp only);simp [go_sem, *]))
      clear hK K hHeld
      try simp only [pS]
      have hlk5:=lk2.out w5 (HIq.out.gr (B:=wr.heap.size) (by(with_reducible (repeat' (first|exact Gr.refl _ _|refine Gr.drew ?_|refine Gr.setCell ?_ ?_ _|refine Gr.alloc ?_ ?_ _|refine Gr.trans ?_ (Gr.mono HG5.out ?_)|omega|(simp;done)|(simp;omega))))) HIq.out.lt)
      refine rd 13 (fun K hK=>?_)
      go_simp
      (try dsimp only)
      refine hK.out _ _ ?_ (fun hQ2=>?_)
      ·(first|exact trivial|((try dsimp only);simp [go_sem, *]))
      clear hK K hQ1
      try simp only [pS]
      clear hlk5
      refine rd 14 (fun K hK=>?_)
      go_simp
      (try dsimp only)
      refine hK.out _ _ ?_ (fun hQ3=>?_)
      ·(first|exact trivial|((try dsimp only);simp [go_sem, *]))
      clear hK K hQ2
      try simp only [pS]
      refine rd 15 (fun K hK=>?_)
      rw [if_pos (by rfl)]
      refine wp_appS _ _ _ 58 rfl (wo.heap.size+1) i1 _ 8 Tryz.underlying58 HI1.out.1 HI1.out.2.1 HI1.out.2.2.1 HI1.out.2.2.2 rfl (by decide) iC_len iC_one (.slice av rl.length cv) rl rfl (HV2.out.gr (by(with_reducible (repeat' (first|exact Gr.refl _ _|refine Gr.drew ?_|refine Gr.setCell ?_ ?_ _|refine Gr.alloc ?_ ?_ _|refine Gr.trans ?_ (Gr.mono HG5.out ?_)|omega|(simp;done)|(simp;omega)))))) w5.heap.size 1 [k2] 1 rfl rfl (by first|exact RC.new1 rfl|exact RC.drew (RC.new1 rfl)) (by unfold maxLen;simp;omega) (by simp;omega) (by simp;omega) ?_
      intro v6 w6 hS6 hkp6 _
      have HK6:=Lib.hid ((show Gr (wo.heap.size+1) wr _ from by(with_reducible (repeat' (first|exact Gr.refl _ _|refine Gr.drew ?_|refine Gr.setCell ?_ ?_ _|refine Gr.alloc ?_ ?_ _|refine Gr.trans ?_ (Gr.mono HG5.out ?_)|omega|(simp;done)|(simp;omega))))).trans (hkp6.gr (B:=wo.heap.size+1) (fun b e=>HV2.out.own_ge e) (by simp;omega)))
      have hb6:=HB.out.gr HK6.out (by omega)
      obtain ⟨pa6,pc6,e6⟩:=hS6.at
      have HS6:=Lib.hid hS6
      obtain ⟨n6,hn6⟩:∃n,(rl++ [k2]).length=n:=⟨_,rfl⟩
      rw [hn6]at e6
      subst e6
      clear hn6 hS6 hkp6
      refine hK.out _ _ ?_ (fun hQ9=>?_)
      ·exact⟨hb6.c 0 _ rfl,hb6.c 1 _ rfl,hb6.c 2 _ rfl⟩
      clear hK K hQ3
      try simp only [pS]
      refine rd 16 (fun K hK=>?_)
      go_simp
      (try dsimp only)
      refine hK.out _ _ ?_ (fun hQ10=>?_)
      ·(first|exact trivial|((try dsimp only);simp [go_sem, *]))
      clear hK K hQ9
      try simp only [pS]
      refine wpAnyH_done (by kernel_rfl) ?_ _
      go_wp2
      go_roundw
      case rel=>exact⟨3,by omega,by go_num,Lib.hid (by rw [show rw_.take (3+3)= [t.1,t.2.1,t.2.2,k0,k1,k2] by rw [hrw3.out];rfl];have:=HS6.out;rw [←hrl.out]at this;exact this),Lib.hid (HQ.out.trans HK6.out)⟩
      case measure=>simp [intOf]
    ·have hi33:i=3:=by omega
     subst hi33
     have HV2:=HV.out
     rw [show rw_.take (3+3)=rw_ by rw [hrw3.out];rfl]at HV2
     have hrn2:rw_.length≤6∧3≤rw_.length:=by rw [hrw3.out];simp
     clear HV
     obtain ⟨gr,cr,e4,hgB,hrc,hrm,hsh,hRR⟩:=HV2.block (by intro e;rw [e]at hrn2;simp at hrn2)
     subst e4
     obtain ⟨wq,hwq⟩:∃q,q=wr:=⟨_,rfl⟩
     subst hwq
     have HGQ:=Lib.hid (show Gr wo.heap.size wo wq from HG1.out.trans (HQ.out.mono (by omega)))
     clear HQ HB HIq hbl q6 hs2
     go_upto_region 25 with fail
     have hzq:=HGQ.out.size
     have HTq:=Lib.hid (HT.out.gr HGQ.out hTl2)
     have hTq2:=HTq.out.lt
     have hgrl:=hsh.lt
     have ht2:=HTq.out.c 2 _ rfl
     have HSH:=Lib.hid hsh
     have HRR:=Lib.hid hRR
     have HGB:=Lib.hid hgB
     clear hsh hRR HV2
     refine wp_region_L 7 (S:=(fun w'=>w'.cell? ⟨pb,2,none⟩=some (.slice ax rs.length cx))) (by kernel_rfl) ?_ (fun hHeld=>?_)
     ·simp [go_sem, *]
     refine tkL 0 (some 129) (.pointer (some ⟨pb,2,none⟩)) ?_
     try simp only [pS]
     refine tkL 1 (some 130) (.slice ax rs.length cx) ?_
     try simp only [pS]
     refine tkL 2 (some 131) (.slice (some ⟨gr,0,none⟩) rw_.length cr) ?_
     try simp only [pS]
     refine rdL 3 (fun K hK=>?_)
     go_simp
     (refine(clipV_I (some ⟨gr,0,none⟩) rw_.length cr _ hrc (by unfold maxLen at hrm;omega)).mono ?_;rintro e w5 ⟨rfl,hg5⟩;(try (with_reducible replace hg5:=Gr.of_drew hg5));have hsz5:=hg5.size;(try simp at hsz5);have hy5_0:pb<w5.heap.size:=(by omega);obtain ⟨hc5,hf5⟩:=hg5.cells;have HG5:=Lib.hid hg5;clear hg5)
     (try dsimp only)
     refine hK.out _ _ ?_ (fun hQ1=>?_)
     ·(first|exact trivial|((try dsimp only);simp [go_sem, *]))
     clear hK K hHeld
     try simp only [pS]
     refine rdL 4 (fun K hK=>?_)
     go_simp
     (try dsimp only)
     refine hK.out _ _ ?_ (fun hQ2=>?_)
     ·(first|exact trivial|((try dsimp only);simp [go_sem, *]))
     clear hK K hQ1
     try simp only [pS]
     refine rdL 5 (fun K hK=>?_)
     rw [if_pos (by rfl)]
     refine wp_appS _ _ _ 33 rfl W.heap.size i0 _ 24 Tryz.underlying33 HI0.out.1 HI0.out.2.1 HI0.out.2.2.1 HI0.out.2.2.2 rfl (by decide) rC_len rC_one (.slice ax rs.length cx) rs rfl (HS.out.gr (show Gr wo.heap.size wo _ from by(with_reducible (repeat' (first|exact Gr.refl _ _|refine Gr.drew ?_|refine Gr.setCell ?_ ?_ _|refine Gr.alloc ?_ ?_ _|refine Gr.trans ?_ (Gr.mono HG5.out ?_)|refine Gr.trans ?_ (Gr.mono HGQ.out ?_)|omega|(simp;done)|(simp;omega)))))) w5.heap.size 1 [(gr,rw_.length)] 1 rfl rfl (by first|exact RC.new1 rfl|exact RC.drew (RC.new1 rfl)) (by unfold maxLen;simp;omega) (by simp;omega) (by simp;omega) ?_
     intro v6 w6 hS6 hkp6 hown6
     obtain ⟨w7,hw7⟩:∃q,q=w5.alloc (.cells #[.slice (some ⟨gr,0,none⟩) rw_.length rw_.length] 58):=⟨_,rfl⟩
     rw [←hw7]at hkp6 hown6
     have HG7:=Lib.hid (show Gr wo.heap.size wo w7 from by rw [hw7];(with_reducible (repeat' (first|exact Gr.refl _ _|refine Gr.drew ?_|refine Gr.setCell ?_ ?_ _|refine Gr.alloc ?_ ?_ _|refine Gr.trans ?_ (Gr.mono HG5.out ?_)|refine Gr.trans ?_ (Gr.mono HGQ.out ?_)|omega|(simp;done)|(simp;omega)))))
     have HGq7:=Lib.hid (show Gr wq.heap.size wq w7 from by rw [hw7];(with_reducible (repeat' (first|exact Gr.refl _ _|refine Gr.drew ?_|refine Gr.setCell ?_ ?_ _|refine Gr.alloc ?_ ?_ _|refine Gr.trans ?_ (Gr.mono HG5.out ?_)|omega|(simp;done)|(simp;omega)))))
     clear hw7
     have hxo:(Value.slice ax rs.length cx).ownBlock≠some (gr):=fun e=>by have:=(own_sl HS.out _ e).2;have:=HGB.out;omega
     have HT6:=Lib.hid ((HT.out.gr HG7.out hTl2).kp hkp6 (fun e=>by have:=(own_sl HS.out _ e.symm).1;omega))
     have HW6:=Lib.hid (show RWx w6 W.heap.size v6 (acc++ [rw_])from RWx.push (w0:=wo) (w1:=w7) hra.out HRS.out HG7.out (by exact hS6) hkp6 hown6 (by have:=HGB.out;omega) hxo ⟨_,HSH.out.of_gr HGq7.out⟩ (HRR.out.gr HGq7.out hgrl))
     have HK6:=Lib.hid ((HK.out.trans (HG7.out.kp _)).far hkp6 (fun g e=>(own_sl HS.out g e).1))
     obtain ⟨pa6,pc6,e6⟩:=hS6.at
     obtain ⟨n6,hn6⟩:∃n,(rs++ [(gr,rw_.length)]).length=n:=⟨_,rfl⟩
     rw [hn6]at e6
     subst e6
     clear hn6 hS6 hkp6 hown6 hxo
     refine hK.out _ _ ?_ (fun hQ9=>?_)
     ·exact HT6.out.c 2 _ rfl
     clear hK K hQ2
     try simp only [pS]
     have z0:=HT6.out.c 2 _ rfl
     have z1:=HT6.out.f 2 (by simp)
     clear ht2
     refine tkL 6 (some 135) (.pointer (some ⟨pb,2,none⟩)) ?_
     try simp only [pS]
     refine rdE 7 (fun K hK=>?_)
     go_simp
     (try dsimp only)
     refine hK.out _ _ ?_
     clear hK K
     try simp only [pS]
     refine AnyL.done (by kernel_rfl) ?_ _
     go_wp2
     go_roundw
     case rel=>
      have k1:Kp w6 (w6.setCell ⟨pb,2,none⟩ (.slice pa6 n6 pc6)) (some pb):=Kp.sets w6 pb 2 [.slice pa6 n6 pc6]
      exact⟨j+1,.slice pa6 n6 pc6,by omega,by go_num,Lib.hid (HT6.out.one 2 _ (by simp)),Lib.hid (by rw [hnext.out];exact HW6.out.kp k1 (fun g e=>by have:=Option.some.inj e;omega)),Lib.hid (HK6.out.trans k1)⟩
     case measure=>simp [intOf];omega
  ·have hjl:j=m.tris.length:=by omega
   subst hjl
   have hacc2:acc=m.tris.map (rowT 2 m.pts.length es):=by rw [←hacc.out,List.take_length]
   have HAC:=Lib.hid hacc2
   clear hacc2
   have HAr:=Lib.hid (HK.out.sl HA.out (fun g e e2=>HPA.out (e.trans e2)))
   have HNr:=Lib.hid (HK.out.sl HN.out (fun g e e2=>HPN.out (e.trans e2)))
   have hpr:pb<wr.heap.size:=hTl2
   have hpw:pb≠w.heap.size+1:=by omega
   have hpw2:w.heap.size+1≠pb:=by omega
   unfold maxLen at cX cA cN
   have t2:=HT.out.c 2 _ rfl
   have t3:=HT.out.c 3 _ rfl
   have t4:=HT.out.c 4 _ rfl
   go_upto_region 27 with fail
   refine wp_region_L 10 (S:=(fun w'=>w'.cell? ⟨pb,2,none⟩=some (.slice ax rs.length cx)∧w'.cell? ⟨pb,3,none⟩=some (.slice aa als.length ca)∧w'.cell? ⟨pb,4,none⟩=some (.slice an nls.length cn))) (by kernel_rfl) ?_ (fun hHeld=>?_)
   ·simp [go_sem, *]
   refine tkL 0 (some 137) (.pointer (some ⟨pb,2,none⟩)) ?_
   try simp only [pS]
   refine tkL 1 (some 138) (.slice ax rs.length cx) ?_
   try simp only [pS]
   refine tkL 3 (some 140) (.pointer (some ⟨pb,3,none⟩)) ?_
   try simp only [pS]
   refine tkL 4 (some 141) (.slice aa als.length ca) ?_
   try simp only [pS]
   refine tkL 6 (some 143) (.pointer (some ⟨pb,4,none⟩)) ?_
   try simp only [pS]
   refine tkL 7 (some 144) (.slice an nls.length cn) ?_
   try simp only [pS]
   refine rdL 2 (fun K hK=>?_)
   go_simp
   (refine(clipV_II ax rs.length cx _ cX.2.1 (by omega)).mono ?_;rintro e w5 ⟨rfl,hg5⟩;(try (with_reducible replace hg5:=Gr.of_drew hg5));have hsz5:=hg5.size;(try simp at hsz5);have hy5_0:pb<w5.heap.size:=(by omega);obtain ⟨hc5,hf5⟩:=hg5.cells;have HG5:=Lib.hid hg5;clear hg5)
   (try dsimp only)
   refine hK.out _ _ ?_ (fun hQ1=>?_)
   ·(first|exact trivial|((try dsimp only);simp [go_sem, *]))
   clear hK K hHeld
   try simp only [pS]
   refine tkL 9 (some 146) (.pointer (some ⟨pb,2,none⟩)) ?_
   try simp only [pS]
   refine rdL 5 (fun K hK=>?_)
   go_simp
   (refine(clipV_P aa als.length ca _ cA.2.1 (by omega)).mono ?_;rintro e w6 ⟨rfl,hg6⟩;(try (with_reducible replace hg6:=Gr.of_drew hg6));have hsz6:=hg6.size;(try simp at hsz6);have hy6_0:pb<w6.heap.size:=(by omega);obtain ⟨hc6,hf6⟩:=hg6.cells;have HG6:=Lib.hid hg6;clear hg6)
   (try dsimp only)
   refine hK.out _ _ ?_ (fun hQ2=>?_)
   ·(first|exact trivial|((try dsimp only);simp [go_sem, *]))
   clear hK K hQ1
   try simp only [pS]
   refine rdL 8 (fun K hK=>?_)
   go_simp
   (refine(clipV_K an nls.length cn _ cN.2.1 (by omega)).mono ?_;rintro e w7 ⟨rfl,hg7⟩;(try (with_reducible replace hg7:=Gr.of_drew hg7));have hsz7:=hg7.size;(try simp at hsz7);have hy7_0:pb<w7.heap.size:=(by omega);obtain ⟨hc7,hf7⟩:=hg7.cells;have HG7:=Lib.hid hg7;clear hg7)
   (try dsimp only)
   refine hK.out _ _ ?_ (fun hQ3=>?_)
   ·(first|exact trivial|((try dsimp only);simp [go_sem, *]))
   clear hK K hQ2
   try simp only [pS]
   have HG9:=Lib.hid (show Gr wr.heap.size wr w7 from by(with_reducible (repeat' (first|exact Gr.refl _ _|refine Gr.drew ?_|refine Gr.setCell ?_ ?_ _|refine Gr.alloc ?_ ?_ _|refine Gr.trans ?_ (Gr.mono HG7.out ?_)|refine Gr.trans ?_ (Gr.mono HG6.out ?_)|refine Gr.trans ?_ (Gr.mono HG5.out ?_)|omega|(simp;done)|(simp;omega)))))
   have HT7:=Lib.hid (HT.out.gr HG9.out hTl2)
   clear t2 t3 t4 hQ3 hc5 hf5 hc6 hf6 hc7 hf7
   have z0:=HT7.out.c 2 _ rfl
   have z1:=HT7.out.f 2 (by simp)
   have k2:Kp w7 (w7.setCell ⟨pb,2,none⟩ (.slice ax rs.length rs.length)) (some pb):=Kp.sets w7 pb 2 [.slice ax rs.length rs.length]
   have HT8:=Lib.hid (show VB (w7.setCell ⟨pb,2,none⟩ (.slice ax rs.length rs.length)) pb _ from HT7.out.one 2 (.slice ax rs.length rs.length) (by simp))
   have hs8:(w7.setCell ⟨pb,2,none⟩ (.slice ax rs.length rs.length)).heap.size=w7.heap.size:=by simp
   refine rdE 10 (fun K hK=>?_)
   go_simp
   (try dsimp only)
   refine hK.out _ _ ?_
   clear hK K
   try simp only [pS]
   generalize w7.setCell ⟨pb,2,none⟩ (.slice ax rs.length rs.length)=w8 at *
   clear z0 z1 HT7
   refine rdE 11 (fun K hK=>?_)
   go_simp
   (try dsimp only)
   refine hK.out _ _ ?_
   clear hK K
   try simp only [pS]
   have z0:=HT8.out.c 3 _ rfl
   have z1:=HT8.out.f 3 (by simp)
   have k3:Kp w8 (w8.setCell ⟨pb,3,none⟩ (.slice aa als.length als.length)) (some pb):=Kp.sets w8 pb 3 [.slice aa als.length als.length]
   have HT9:=Lib.hid (show VB (w8.setCell ⟨pb,3,none⟩ (.slice aa als.length als.length)) pb _ from HT8.out.one 3 (.slice aa als.length als.length) (by simp))
   have hs9:(w8.setCell ⟨pb,3,none⟩ (.slice aa als.length als.length)).heap.size=w8.heap.size:=by simp
   refine rdE 12 (fun K hK=>?_)
   go_simp
   (try dsimp only)
   refine hK.out _ _ ?_
   clear hK K
   try simp only [pS]
   generalize w8.setCell ⟨pb,3,none⟩ (.slice aa als.length als.length)=w9 at *
   clear z0 z1 HT8
   refine rdE 13 (fun K hK=>?_)
   go_simp
   (try dsimp only)
   refine hK.out _ _ ?_
   clear hK K
   try simp only [pS]
   have z0:=HT9.out.c 4 _ rfl
   have z1:=HT9.out.f 4 (by simp)
   have k4:Kp w9 (w9.setCell ⟨pb,4,none⟩ (.slice an nls.length nls.length)) (some pb):=Kp.sets w9 pb 4 [.slice an nls.length nls.length]
   have HTA:=Lib.hid (show VB (w9.setCell ⟨pb,4,none⟩ (.slice an nls.length nls.length)) pb [.int .i64 2,.int .i64 (N:Int),.slice ax rs.length rs.length,.slice aa als.length als.length,.slice an nls.length nls.length]from HT9.out.one 4 (.slice an nls.length nls.length) (by simp))
   have hsA:(w9.setCell ⟨pb,4,none⟩ (.slice an nls.length nls.length)).heap.size=w9.heap.size:=by simp
   refine rdE 14 (fun K hK=>?_)
   go_simp
   (try dsimp only)
   refine hK.out _ _ ?_
   clear hK K
   try simp only [pS]
   generalize w9.setCell ⟨pb,4,none⟩ (.slice an nls.length nls.length)=wA at *
   clear z0 z1 HT9
   refine AnyL.done (by kernel_rfl) ?_ _
   have HKA:=Lib.hid (show Kp wr wA (some pb)from(((HG9.out.kp _).trans k2).trans k3).trans k4)
   clear k2 k3 k4
   have hszA:w.heap.size+1<wA.heap.size∧wr.heap.size≤wA.heap.size:=by omega
   obtain ⟨hA1,hA2⟩:=hszA
   have HRA:=Lib.hid (HRr.out.kp HKA.out (fun e=>hpw (Option.some.inj e).symm))
   obtain ⟨d0,d1,d2,d3,d4,-⟩:=HTA.out.five
   obtain ⟨r0,r1,r2,r3,r4,s0,s1,s2,s3,s4⟩:=HRA.out.five
   clear hs8 hs9 hsA
   go_wp2
   have kZ:Kp wA (((((wA.setCell ⟨w.heap.size+1,0,none⟩ (.int .i64 2)).setCell ⟨w.heap.size+1,1,none⟩ (.int .i64 (N:Int))).setCell ⟨w.heap.size+1,2,none⟩ (.slice ax rs.length rs.length)).setCell ⟨w.heap.size+1,3,none⟩ (.slice aa als.length als.length)).setCell ⟨w.heap.size+1,4,none⟩ (.slice an nls.length nls.length)) (some (w.heap.size+1)):=Kp.sets wA (w.heap.size+1) 0 [.int .i64 2,.int .i64 (N:Int),.slice ax rs.length rs.length,.slice aa als.length als.length,.slice an nls.length nls.length]
   refine ret_row2 (g:=w.heap.size+1) (cs:= [.int .i64 2,.int .i64 (N:Int),.slice ax rs.length rs.length,.slice aa als.length als.length,.slice an nls.length nls.length]) Tryz.results5 rfl rfl HRA.out.put5 Tryz.underlying36 rfl info_Tab rfl ⟨_,_,_,rfl,?_,?_,?_,?_⟩
   ·rw [←HAC.out];exact((HW.out.done.1.kp HKA.out (fun g e=>by have:=Option.some.inj e;omega)).kp kZ (fun g e=>by have:=Option.some.inj e;omega)).mono (by omega)
   ·exact((HAr.out.sr.clip.kp HKA.out (fun g e e2=>HPA.out ((own_cap e).trans e2))).kp kZ (fun g e e2=>by have:=(own_sl HAr.out g (own_cap e)).1;have:=Option.some.inj e2;omega)).mono (by omega)
   ·exact((HNr.out.sr.clip.kp HKA.out (fun g e e2=>HPN.out ((own_cap e).trans e2))).kp kZ (fun g e e2=>by have:=(own_sl HNr.out g (own_cap e)).1;have:=Option.some.inj e2;omega)).mono (by omega)
   ·exact(HG.out.trans ((HK.out.trans HKA.out).gr (fun b e=>by have:=Option.some.inj e;omega) (by omega))).trans (kZ.gr (fun b e=>by have:=Option.some.inj e;omega) (by omega))
set_option maxRecDepth 20000 in
set_option maxHeartbeats 8000000 in
theorem of17_1 (w W:World) (m:Msh) (es:List Edg) (N:Nat) (at_ aa an:Option Addr) (ct ca cn:Nat) (vp vs:Value) (pb mb:Nat) (als:List Pt) (nls:List (Int×Int)) (hG:Gr w.heap.size w W) (hX:VB W w.heap.size [vp,.slice at_ m.tris.length ct,vs]) (hR:VB W (w.heap.size+1) [.int .i64 0,.int .i64 0,.slice none 0 0,.slice none 0 0,.slice none 0 0]) (hT:VB W pb [.int .i64 1,.int .i64 (N:Int),.slice none 0 0,.slice aa als.length ca,.slice an nls.length cn]) (hpb:w.heap.size+1<pb) (hN:m.pts.length≤1000) (hTn:m.tris.length≤1000) (hen:es.length≤3000)
  (hA:SL pC 10 55 W (w.heap.size+1+1) (.slice aa als.length ca) als) (hNs:SL i2C 2 85 W (w.heap.size+1+1) (.slice an nls.length cn) nls) (hpA:(Value.slice aa als.length ca).ownBlock≠some pb) (hpN:(Value.slice an nls.length cn).ownBlock≠some pb) (hI:MIP W mb m.pts.length es) (hmb:mb≠pb) (hTr:SR triC 3 77 w 0 (.slice at_ m.tris.length ct) m.tris) (hl:∀t∈m.tris,t.1<m.pts.length∧t.2.1<m.pts.length∧t.2.2<m.pts.length∧hasE es t.2.1 t.2.2∧hasE es t.2.2 t.1∧hasE es t.1 t.2.1):
  Code.wp Tryz.prog (tlO 17) (bodyPost Tryz.prog Tryz.f5 (fun e w'=> ∃x y z,e= .returned (.tuple #[.agg #[.int .i64 1,.int .i64 (N:Int),x,y,z],.int .i64 0])∧RWr w' w.heap.size x (m.tris.map (rowT 1 m.pts.length es))∧SR pC 10 55 w' w.heap.size y als∧SR i2C 2 85 w' w.heap.size z nls∧Gr w.heap.size w w')) {tmps:= #[v0,.int .i64 1,.pointer (some ⟨w.heap.size,0,none⟩),v3,.pointer (some ⟨w.heap.size+1,0,none⟩),v5,v6,.pointer (some ⟨pb,0,none⟩),.map (some mb),v9,v10,v11,v12,v13,v14,v15,v16,v17,v18,v19,v20,v21,v22,v23,v24,v25,v26,v27,v28,v29,v30,v31,v32,v33,v34,v35,v36,v37,v38,v39,v40,v41,v42,v43,v44,v45,v46,v47,v48,v49,v50,v51,v52,v53,v54,v55,v56,v57,v58,v59,v60,v61,v62,v63,v64,v65,v66,v67,v68,v69,v70,v71,v72,v73,v74,v75,v76,v77,v78,v79,v80,v81,v82,v83,v84,v85,v86,v87,v88,v89,v90,v91,v92,v93,v94,v95,v96,v97,v98,v99,v100,v101,v102,v103,v104,v105,v106,v107,v108,v109,v110,v111,v112,v113,v114,v115,v116,v117,v118,v119,v120,v121,v122,v123,v124,v125,v126,v127,v128,v129,v130,v131,v132,v133,v134,v135,v136,v137,v138,v139,v140,v141,v142,v143,v144,v145,v146,v147,v148,v149],defers:= []} W:=by
 have HG:=Lib.hid hG
 have HX:=Lib.hid hX
 have HR:=Lib.hid hR
 have HT:=Lib.hid hT
 have HA:=Lib.hid hA
 have HN:=Lib.hid hNs
 have HPA:=Lib.hid hpA
 have HPN:=Lib.hid hpN
 have HI:=Lib.hid hI
 have HTR:=Lib.hid hTr
 have HL:=Lib.hid hl
 have HMB:=Lib.hid hmb
 have hlA:=hA.len
 have hlN:=hNs.len
 have cA:=hA.sr.cap
 have cN:=hNs.sr.cap
 have hml:=hI.lt
 have hTl:=hT.lt
 have hXl:=hX.lt
 have hRl:=hR.lt
 obtain ⟨x0,x1,x2,-,-,-⟩:=hX.three
 clear hG hX hR hT hA hNs hpA hpN hI hTr hl hmb
 obtain ⟨i0,hi,hz0,hz1,hz2⟩:=info_parts info_bInts
 have HI0:=Lib.hid (And.intro hi (And.intro hz0 (And.intro hz1 hz2)))
 clear hi hz0 hz1 hz2
 obtain ⟨i1,hi,hz0,hz1,hz2⟩:=info_parts info_bInt1
 have HI1:=Lib.hid (And.intro hi (And.intro hz0 (And.intro hz1 hz2)))
 clear hi hz0 hz1 hz2
 refine wp_seq_k (fun K hK=>?_)
 go_wp2
 go_loopw [94] (fun s wr=> ∃(j:Nat) (x:Value),j≤m.tris.length∧s= .int .i64 j∧Hid (VB wr pb [.int .i64 1,.int .i64 (N:Int),x,.slice aa als.length ca,.slice an nls.length cn])∧Hid (RWx wr W.heap.size x ((m.tris.take j).map (rowT 1 m.pts.length es)))∧Hid (Kp W wr (some pb))) (fun s _=>m.tris.length - (intOf s).toNat)
 case atStart=>exact⟨0,_,Nat.zero_le _,rfl,HT,Lib.hid RWx.nil,Lib.hid ((Gr.refl _ _).kp _)⟩
 case round=>
  clear HT x0 x1 x2
  obtain ⟨j,x,hj,rfl,HT,HW,HK⟩:=hrel
  obtain ⟨acc,hacc⟩:∃q,(m.tris.take j).map (rowT 1 m.pts.length es)=q:=⟨_,rfl⟩
  rw [hacc]at HW
  have hal:acc.length=j:=by rw [←hacc];simp;omega
  replace hacc:=Lib.hid hacc
  obtain ⟨rs,hS,hrl,hrs⟩:=HW.out
  have HS:=Lib.hid hS
  have HRS:=Lib.hid hrs
  obtain ⟨ax,cx,rfl⟩:=hS.at
  have cX:=hS.sr.cap
  clear hS hrs
  have hrn:rs.length≤1000:=by omega
  have hrj:=Lib.hid (show rs.length=j by omega)
  have hra:=Lib.hid hrl
  have haj:=Lib.hid hal
  clear hrl hal
  have hszr:=HK.out.g.size
  have hTl2:=HT.out.lt
  have HXr:=Lib.hid (HX.out.kp HK.out (fun e=>by have:=Option.some.inj e;omega))
  have HRr:=Lib.hid (HR.out.kp HK.out (fun e=>by have:=Option.some.inj e;omega))
  have HIr:=Lib.hid (HI.out.kp HK.out (fun e=>HMB.out (Option.some.inj e)))
  by_cases hlt:j<m.tris.length
  ·have q0:(j:Int)<(m.tris.length:Int):=by omega
   obtain ⟨t,ht⟩:∃t,m.tris[j]=t:=⟨_,rfl⟩
   obtain ⟨l1,l2,l3,e12,e20,e01⟩:=HL.out t (ht ▸ List.getElem_mem hlt)
   obtain ⟨gt,ct',e4,_,_,_,hsh,hR⟩:=HTR.out.block (by intro e;rw [e]at hlt;simp at hlt)
   injection e4 with e4 _ e5
   subst e4 e5
   have hgl:=hsh.lt
   obtain ⟨u0,u1,u2⟩:=((hR.gr HG.out hgl).fTri hlt ht)
   have hgw:gt<W.heap.size:=by have:=HG.out.size;omega
   have hgp:gt≠pb:=by omega
   rw [←HK.out.cell (b:=gt) (o:=j*3) hgw (fun e=>hgp (Option.some.inj e))]at u0
   rw [←HK.out.cell (b:=gt) (o:=j*3+1) hgw (fun e=>hgp (Option.some.inj e))]at u1
   rw [←HK.out.cell (b:=gt) (o:=j*3+2) hgw (fun e=>hgp (Option.some.inj e))]at u2
   clear hR hsh e12 e20 e01
   have hgr:gt<wr.heap.size:=by omega
   obtain ⟨rw_,hrw⟩:∃q,rowT 1 m.pts.length es t=q:=⟨_,rfl⟩
   have hnext:Hid ((m.tris.take (j+1)).map (rowT 1 m.pts.length es)=acc++ [rw_]):=Lib.hid (by rw [List.take_add_one,List.getElem?_eq_getElem hlt,ht,List.map_append,hacc.out,←hrw];rfl)
   have hrw2:rw_= [t.1,t.2.1,t.2.2]:=by rw [←hrw];rfl
   clear ht hrw
   have hrw3:=Lib.hid hrw2
   clear hrw2
   obtain ⟨wo,hwo⟩:∃q,q=wr:=⟨_,rfl⟩
   subst hwo
   have hw1:wo.heap.size<wo.heap.size+1+1:=by omega
   have HB1:=Lib.hid (show VB ((wo.alloc (.cells #[.int .i64 (t.1:Int),.int .i64 (t.2.1:Int),.int .i64 (t.2.2:Int)] 77)).alloc (.cells #[.int .i64 (t.1:Int),.int .i64 (t.2.1:Int),.int .i64 (t.2.2:Int)] 3)) wo.heap.size [.int .i64 (t.1:Int),.int .i64 (t.2.1:Int),.int .i64 (t.2.2:Int)]from by(with_reducible (repeat' (first|(refine VB.new' ?_;exact(by first|omega|(simp;done)|(simp;omega)))|apply VB.put2|apply VB.put3|apply VB.put5|refine VB.drew ?_|refine VB.far ?_ ?_ _|refine VB.alloc ?_ _|omega|(simp;done)|(simp;omega)))))
   have HV1:=Lib.hid (show SL iC 1 3 ((wo.alloc (.cells #[.int .i64 (t.1:Int),.int .i64 (t.2.1:Int),.int .i64 (t.2.2:Int)] 77)).alloc (.cells #[.int .i64 (t.1:Int),.int .i64 (t.2.1:Int),.int .i64 (t.2.2:Int)] 3)) (wo.heap.size+1) (.slice (some ⟨wo.heap.size+1,0,none⟩) 3 3) [t.1,t.2.1,t.2.2]from SL.new' (l:= [t.1,t.2.1,t.2.2]) iC_len _ rfl (by simp) (by omega) (by simp [maxLen]) rfl)
   have HG1:=Lib.hid (show Gr wo.heap.size wo ((wo.alloc (.cells #[.int .i64 (t.1:Int),.int .i64 (t.2.1:Int),.int .i64 (t.2.2:Int)] 77)).alloc (.cells #[.int .i64 (t.1:Int),.int .i64 (t.2.1:Int),.int .i64 (t.2.2:Int)] 3))from by(with_reducible (repeat' (first|exact Gr.refl _ _|refine Gr.drew ?_|refine Gr.setCell ?_ ?_ _|refine Gr.alloc ?_ ?_ _|omega|(simp;done)|(simp;omega)))))
   have hs1:((wo.alloc (.cells #[.int .i64 (t.1:Int),.int .i64 (t.2.1:Int),.int .i64 (t.2.2:Int)] 77)).alloc (.cells #[.int .i64 (t.1:Int),.int .i64 (t.2.1:Int),.int .i64 (t.2.2:Int)] 3)).heap.size=wo.heap.size+1+1:=by simp
   have HV2:=HV1.out
   have hrn2:rw_.length≤6∧3≤rw_.length:=by rw [hrw3.out];simp
   rw [←hrw3.out]at HV2
   obtain ⟨gr,cr,e4,hgB,hrc,hrm,hsh,hRR⟩:=HV2.block (by intro e;rw [e]at hrn2;simp at hrn2)
   injection e4 with e5 e6 e7
   have hrw8:=Lib.hid e6
   have hcr:cr=3:=e7.symm
   subst hcr
   have egr:=congrArg (fun a=>match a with|some (a:Addr)=>a.block|none=>0) e5
   dsimp only at egr
   subst egr
   clear e5 e6 e7 HB1 HV1
   go_wp2
   refine wp_loop_rounds 1 ?_
   rw [rounds_succ]
   go_upto_region 25 with fail
   generalize ((wo.alloc (.cells #[.int .i64 (t.1:Int),.int .i64 (t.2.1:Int),.int .i64 (t.2.2:Int)] 77)).alloc (.cells #[.int .i64 (t.1:Int),.int .i64 (t.2.1:Int),.int .i64 (t.2.2:Int)] 3))=wq at *
   have HGQ:=HG1
   clear hs1
   have hzq:=HGQ.out.size
   have HTq:=Lib.hid (HT.out.gr HGQ.out hTl2)
   have hTq2:=HTq.out.lt
   have hgrl:=hsh.lt
   have ht2:=HTq.out.c 2 _ rfl
   have HSH:=Lib.hid hsh
   have HRR:=Lib.hid hRR
   have HGB:=Lib.hid hgB
   clear hsh hRR HV2
   refine wp_region_L 7 (S:=(fun w'=>w'.cell? ⟨pb,2,none⟩=some (.slice ax rs.length cx))) (by kernel_rfl) ?_ (fun hHeld=>?_)
   ·simp [go_sem, *]
   refine tkL 0 (some 129) (.pointer (some ⟨pb,2,none⟩)) ?_
   try simp only [pS]
   refine tkL 1 (some 130) (.slice ax rs.length cx) ?_
   try simp only [pS]
   refine tkL 2 (some 131) (.slice (some ⟨wo.heap.size+1,0,none⟩) 3 3) ?_
   try simp only [pS]
   refine rdL 3 (fun K hK=>?_)
   go_simp
   (refine(clipV_I (some ⟨wo.heap.size+1,0,none⟩) 3 3 _ (by omega) (by omega)).mono ?_;rintro e w5 ⟨rfl,hg5⟩;(try (with_reducible replace hg5:=Gr.of_drew hg5));have hsz5:=hg5.size;(try simp at hsz5);have hy5_0:pb<w5.heap.size:=(by omega);obtain ⟨hc5,hf5⟩:=hg5.cells;have HG5:=Lib.hid hg5;clear hg5)
   (try dsimp only)
   refine hK.out _ _ ?_ (fun hQ1=>?_)
   ·(first|exact trivial|((try dsimp only);simp [go_sem, *]))
   clear hK K hHeld
   try simp only [pS]
   refine rdL 4 (fun K hK=>?_)
   go_simp
   (try dsimp only)
   refine hK.out _ _ ?_ (fun hQ2=>?_)
   ·(first|exact trivial|((try dsimp only);simp [go_sem, *]))
   clear hK K hQ1
   try simp only [pS]
   refine rdL 5 (fun K hK=>?_)
   rw [if_pos (by rfl)]
   refine wp_appS _ _ _ 33 rfl W.heap.size i0 _ 24 Tryz.underlying33 HI0.out.1 HI0.out.2.1 HI0.out.2.2.1 HI0.out.2.2.2 rfl (by decide) rC_len rC_one (.slice ax rs.length cx) rs rfl (HS.out.gr (show Gr wo.heap.size wo _ from by(with_reducible (repeat' (first|exact Gr.refl _ _|refine Gr.drew ?_|refine Gr.setCell ?_ ?_ _|refine Gr.alloc ?_ ?_ _|refine Gr.trans ?_ (Gr.mono HG5.out ?_)|refine Gr.trans ?_ (Gr.mono HGQ.out ?_)|omega|(simp;done)|(simp;omega)))))) w5.heap.size 1 [(wo.heap.size+1,3)] 1 rfl rfl (by first|exact RC.new1 rfl|exact RC.drew (RC.new1 rfl)) (by unfold maxLen;simp;omega) (by simp;omega) (by simp;omega) ?_
   intro v6 w6 hS6 hkp6 hown6
   obtain ⟨w7,hw7⟩:∃q,q=w5.alloc (.cells #[.slice (some ⟨wo.heap.size+1,0,none⟩) 3 3] 58):=⟨_,rfl⟩
   rw [←hw7]at hkp6 hown6
   have HG7:=Lib.hid (show Gr wo.heap.size wo w7 from by rw [hw7];(with_reducible (repeat' (first|exact Gr.refl _ _|refine Gr.drew ?_|refine Gr.setCell ?_ ?_ _|refine Gr.alloc ?_ ?_ _|refine Gr.trans ?_ (Gr.mono HG5.out ?_)|refine Gr.trans ?_ (Gr.mono HGQ.out ?_)|omega|(simp;done)|(simp;omega)))))
   have HGq7:=Lib.hid (show Gr wq.heap.size wq w7 from by rw [hw7];(with_reducible (repeat' (first|exact Gr.refl _ _|refine Gr.drew ?_|refine Gr.setCell ?_ ?_ _|refine Gr.alloc ?_ ?_ _|refine Gr.trans ?_ (Gr.mono HG5.out ?_)|omega|(simp;done)|(simp;omega)))))
   clear hw7
   have hxo:(Value.slice ax rs.length cx).ownBlock≠some (wo.heap.size+1):=fun e=>by have:=(own_sl HS.out _ e).2;have:=HGB.out;omega
   have HT6:=Lib.hid ((HT.out.gr HG7.out hTl2).kp hkp6 (fun e=>by have:=(own_sl HS.out _ e.symm).1;omega))
   have HW6:=Lib.hid (show RWx w6 W.heap.size v6 (acc++ [rw_])from RWx.push (w0:=wo) (w1:=w7) hra.out HRS.out HG7.out (by rw [←hrw8.out];exact hS6) hkp6 hown6 (by have:=HGB.out;omega) hxo ⟨_,HSH.out.of_gr HGq7.out⟩ (HRR.out.gr HGq7.out hgrl))
   have HK6:=Lib.hid ((HK.out.trans (HG7.out.kp _)).far hkp6 (fun g e=>(own_sl HS.out g e).1))
   obtain ⟨pa6,pc6,e6⟩:=hS6.at
   obtain ⟨n6,hn6⟩:∃n,(rs++ [(wo.heap.size+1,3)]).length=n:=⟨_,rfl⟩
   rw [hn6]at e6
   subst e6
   clear hn6 hS6 hkp6 hown6 hxo
   refine hK.out _ _ ?_ (fun hQ9=>?_)
   ·exact HT6.out.c 2 _ rfl
   clear hK K hQ2
   try simp only [pS]
   have z0:=HT6.out.c 2 _ rfl
   have z1:=HT6.out.f 2 (by simp)
   clear ht2
   refine tkL 6 (some 135) (.pointer (some ⟨pb,2,none⟩)) ?_
   try simp only [pS]
   refine rdE 7 (fun K hK=>?_)
   go_simp
   (try dsimp only)
   refine hK.out _ _ ?_
   clear hK K
   try simp only [pS]
   refine AnyL.done (by kernel_rfl) ?_ _
   go_wp2
   go_roundw
   case rel=>
    have k1:Kp w6 (w6.setCell ⟨pb,2,none⟩ (.slice pa6 n6 pc6)) (some pb):=Kp.sets w6 pb 2 [.slice pa6 n6 pc6]
    exact⟨j+1,.slice pa6 n6 pc6,by omega,by go_num,Lib.hid (HT6.out.one 2 _ (by simp)),Lib.hid (by rw [hnext.out];exact HW6.out.kp k1 (fun g e=>by have:=Option.some.inj e;omega)),Lib.hid (HK6.out.trans k1)⟩
   case measure=>simp [intOf];omega
  ·have hjl:j=m.tris.length:=by omega
   subst hjl
   have hacc2:acc=m.tris.map (rowT 1 m.pts.length es):=by rw [←hacc.out,List.take_length]
   have HAC:=Lib.hid hacc2
   clear hacc2
   have HAr:=Lib.hid (HK.out.sl HA.out (fun g e e2=>HPA.out (e.trans e2)))
   have HNr:=Lib.hid (HK.out.sl HN.out (fun g e e2=>HPN.out (e.trans e2)))
   have hpr:pb<wr.heap.size:=hTl2
   have hpw:pb≠w.heap.size+1:=by omega
   have hpw2:w.heap.size+1≠pb:=by omega
   unfold maxLen at cX cA cN
   have t2:=HT.out.c 2 _ rfl
   have t3:=HT.out.c 3 _ rfl
   have t4:=HT.out.c 4 _ rfl
   go_upto_region 27 with fail
   refine wp_region_L 10 (S:=(fun w'=>w'.cell? ⟨pb,2,none⟩=some (.slice ax rs.length cx)∧w'.cell? ⟨pb,3,none⟩=some (.slice aa als.length ca)∧w'.cell? ⟨pb,4,none⟩=some (.slice an nls.length cn))) (by kernel_rfl) ?_ (fun hHeld=>?_)
   ·simp [go_sem, *]
   refine tkL 0 (some 137) (.pointer (some ⟨pb,2,none⟩)) ?_
   try simp only [pS]
   refine tkL 1 (some 138) (.slice ax rs.length cx) ?_
   try simp only [pS]
   refine tkL 3 (some 140) (.pointer (some ⟨pb,3,none⟩)) ?_
   try simp only [pS]
   refine tkL 4 (some 141) (.slice aa als.length ca) ?_
   try simp only [pS]
   refine tkL 6 (some 143) (.pointer (some ⟨pb,4,none⟩)) ?_
   try simp only [pS]
   refine tkL 7 (some 144) (.slice an nls.length cn) ?_
   try simp only [pS]
   refine rdL 2 (fun K hK=>?_)
   go_simp
   (refine(clipV_II ax rs.length cx _ cX.2.1 (by omega)).mono ?_;rintro e w5 ⟨rfl,hg5⟩;(try (with_reducible replace hg5:=Gr.of_drew hg5));have hsz5:=hg5.size;(try simp at hsz5);have hy5_0:pb<w5.heap.size:=(by omega);obtain ⟨hc5,hf5⟩:=hg5.cells;have HG5:=Lib.hid hg5;clear hg5)
   (try dsimp only)
   refine hK.out _ _ ?_ (fun hQ1=>?_)
   ·(first|exact trivial|((try dsimp only);simp [go_sem, *]))
   clear hK K hHeld
   try simp only [pS]
   refine tkL 9 (some 146) (.pointer (some ⟨pb,2,none⟩)) ?_
   try simp only [pS]
   refine rdL 5 (fun K hK=>?_)
   go_simp
   (refine(clipV_P aa als.length ca _ cA.2.1 (by omega)).mono ?_;rintro e w6 ⟨rfl,hg6⟩;(try (with_reducible replace hg6:=Gr.of_drew hg6));have hsz6:=hg6.size;(try simp at hsz6);have hy6_0:pb<w6.heap.size:=(by omega);obtain ⟨hc6,hf6⟩:=hg6.cells;have HG6:=Lib.hid hg6;clear hg6)
   (try dsimp only)
   refine hK.out _ _ ?_ (fun hQ2=>?_)
   ·(first|exact trivial|((try dsimp only);simp [go_sem, *]))
   clear hK K hQ1
   try simp only [pS]
   refine rdL 8 (fun K hK=>?_)
   go_simp
   (refine(clipV_K an nls.length cn _ cN.2.1 (by omega)).mono ?_;rintro e w7 ⟨rfl,hg7⟩;(try (with_reducible replace hg7:=Gr.of_drew hg7));have hsz7:=hg7.size;(try simp at hsz7);have hy7_0:pb<w7.heap.size:=(by omega);obtain ⟨hc7,hf7⟩:=hg7.cells;have HG7:=Lib.hid hg7;clear hg7)
   (try dsimp only)
   refine hK.out _ _ ?_ (fun hQ3=>?_)
   ·(first|exact trivial|((try dsimp only);simp [go_sem, *]))
   clear hK K hQ2
   try simp only [pS]
   have HG9:=Lib.hid (show Gr wr.heap.size wr w7 from by(with_reducible (repeat' (first|exact Gr.refl _ _|refine Gr.drew ?_|refine Gr.setCell ?_ ?_ _|refine Gr.alloc ?_ ?_ _|refine Gr.trans ?_ (Gr.mono HG7.out ?_)|refine Gr.trans ?_ (Gr.mono HG6.out ?_)|refine Gr.trans ?_ (Gr.mono HG5.out ?_)|omega|(simp;done)|(simp;omega)))))
   have HT7:=Lib.hid (HT.out.gr HG9.out hTl2)
   clear t2 t3 t4 hQ3 hc5 hf5 hc6 hf6 hc7 hf7
   have z0:=HT7.out.c 2 _ rfl
   have z1:=HT7.out.f 2 (by simp)
   have k2:Kp w7 (w7.setCell ⟨pb,2,none⟩ (.slice ax rs.length rs.length)) (some pb):=Kp.sets w7 pb 2 [.slice ax rs.length rs.length]
   have HT8:=Lib.hid (show VB (w7.setCell ⟨pb,2,none⟩ (.slice ax rs.length rs.length)) pb _ from HT7.out.one 2 (.slice ax rs.length rs.length) (by simp))
   have hs8:(w7.setCell ⟨pb,2,none⟩ (.slice ax rs.length rs.length)).heap.size=w7.heap.size:=by simp
   refine rdE 10 (fun K hK=>?_)
   go_simp
   (try dsimp only)
   refine hK.out _ _ ?_
   clear hK K
   try simp only [pS]
   generalize w7.setCell ⟨pb,2,none⟩ (.slice ax rs.length rs.length)=w8 at *
   clear z0 z1 HT7
   refine rdE 11 (fun K hK=>?_)
   go_simp
   (try dsimp only)
   refine hK.out _ _ ?_
   clear hK K
   try simp only [pS]
   have z0:=HT8.out.c 3 _ rfl
   have z1:=HT8.out.f 3 (by simp)
   have k3:Kp w8 (w8.setCell ⟨pb,3,none⟩ (.slice aa als.length als.length)) (some pb):=Kp.sets w8 pb 3 [.slice aa als.length als.length]
   have HT9:=Lib.hid (show VB (w8.setCell ⟨pb,3,none⟩ (.slice aa als.length als.length)) pb _ from HT8.out.one 3 (.slice aa als.length als.length) (by simp))
   have hs9:(w8.setCell ⟨pb,3,none⟩ (.slice aa als.length als.length)).heap.size=w8.heap.size:=by simp
   refine rdE 12 (fun K hK=>?_)
   go_simp
   (try dsimp only)
   refine hK.out _ _ ?_
   clear hK K
   try simp only [pS]
   generalize w8.setCell ⟨pb,3,none⟩ (.slice aa als.length als.length)=w9 at *
   clear z0 z1 HT8
   refine rdE 13 (fun K hK=>?_)
   go_simp
   (try dsimp only)
   refine hK.out _ _ ?_
   clear hK K
   try simp only [pS]
   have z0:=HT9.out.c 4 _ rfl
   have z1:=HT9.out.f 4 (by simp)
   have k4:Kp w9 (w9.setCell ⟨pb,4,none⟩ (.slice an nls.length nls.length)) (some pb):=Kp.sets w9 pb 4 [.slice an nls.length nls.length]
   have HTA:=Lib.hid (show VB (w9.setCell ⟨pb,4,none⟩ (.slice an nls.length nls.length)) pb [.int .i64 1,.int .i64 (N:Int),.slice ax rs.length rs.length,.slice aa als.length als.length,.slice an nls.length nls.length]from HT9.out.one 4 (.slice an nls.length nls.length) (by simp))
   have hsA:(w9.setCell ⟨pb,4,none⟩ (.slice an nls.length nls.length)).heap.size=w9.heap.size:=by simp
   refine rdE 14 (fun K hK=>?_)
   go_simp
   (try dsimp only)
   refine hK.out _ _ ?_
   clear hK K
   try simp only [pS]
   generalize w9.setCell ⟨pb,4,none⟩ (.slice an nls.length nls.length)=wA at *
   clear z0 z1 HT9
   refine AnyL.done (by kernel_rfl) ?_ _
   have HKA:=Lib.hid (show Kp wr wA (some pb)from(((HG9.out.kp _).trans k2).trans k3).trans k4)
   clear k2 k3 k4
   have hszA:w.heap.size+1<wA.heap.size∧wr.heap.size≤wA.heap.size:=by omega
   obtain ⟨hA1,hA2⟩:=hszA
   have HRA:=Lib.hid (HRr.out.kp HKA.out (fun e=>hpw (Option.some.inj e).symm))
   obtain ⟨d0,d1,d2,d3,d4,-⟩:=HTA.out.five
   obtain ⟨r0,r1,r2,r3,r4,s0,s1,s2,s3,s4⟩:=HRA.out.five
   clear hs8 hs9 hsA
   go_wp2
   have kZ:Kp wA (((((wA.setCell ⟨w.heap.size+1,0,none⟩ (.int .i64 1)).setCell ⟨w.heap.size+1,1,none⟩ (.int .i64 (N:Int))).setCell ⟨w.heap.size+1,2,none⟩ (.slice ax rs.length rs.length)).setCell ⟨w.heap.size+1,3,none⟩ (.slice aa als.length als.length)).setCell ⟨w.heap.size+1,4,none⟩ (.slice an nls.length nls.length)) (some (w.heap.size+1)):=Kp.sets wA (w.heap.size+1) 0 [.int .i64 1,.int .i64 (N:Int),.slice ax rs.length rs.length,.slice aa als.length als.length,.slice an nls.length nls.length]
   refine ret_row2 (g:=w.heap.size+1) (cs:= [.int .i64 1,.int .i64 (N:Int),.slice ax rs.length rs.length,.slice aa als.length als.length,.slice an nls.length nls.length]) Tryz.results5 rfl rfl HRA.out.put5 Tryz.underlying36 rfl info_Tab rfl ⟨_,_,_,rfl,?_,?_,?_,?_⟩
   ·rw [←HAC.out];exact((HW.out.done.1.kp HKA.out (fun g e=>by have:=Option.some.inj e;omega)).kp kZ (fun g e=>by have:=Option.some.inj e;omega)).mono (by omega)
   ·exact((HAr.out.sr.clip.kp HKA.out (fun g e e2=>HPA.out ((own_cap e).trans e2))).kp kZ (fun g e e2=>by have:=(own_sl HAr.out g (own_cap e)).1;have:=Option.some.inj e2;omega)).mono (by omega)
   ·exact((HNr.out.sr.clip.kp HKA.out (fun g e e2=>HPN.out ((own_cap e).trans e2))).kp kZ (fun g e e2=>by have:=(own_sl HNr.out g (own_cap e)).1;have:=Option.some.inj e2;omega)).mono (by omega)
   ·exact(HG.out.trans ((HK.out.trans HKA.out).gr (fun b e=>by have:=Option.some.inj e;omega) (by omega))).trans (kZ.gr (fun b e=>by have:=Option.some.inj e;omega) (by omega))
end Go.Proofs.YtjijceliboaeaaaGreatDoor
