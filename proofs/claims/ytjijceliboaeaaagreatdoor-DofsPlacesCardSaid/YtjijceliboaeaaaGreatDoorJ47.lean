/-
  Part 47 of the proof: PlaK PlaC PlaL.
-/
import Derived.Test.YtjijceliboaeaaaGreatDoorJ41
import Derived.Test.YtjijceliboaeaaaGreatDoorJ46
import Derived.Test.YtjijceliboaeaaaGreatDoorJ23
import Derived.Test.YtjijceliboaeaaaGreatDoorJ14
import Derived.Test.YtjijceliboaeaaaGreatDoorJ16
import Derived.Test.YtjijceliboaeaaaGreatDoorJ10
import Derived.Test.YtjijceliboaeaaaGreatDoorJ44
set_option linter.unusedSimpArgs false
set_option linter.unusedVariables false
namespace Go.Proofs.YtjijceliboaeaaaGreatDoor
open Go.RowKit Gus Go.Maps
open Go.WideElems (rg)
noncomputable def kQ:TypeId:=((Tryz.prog.underlying 44).bind fun| .map k _=>some k|_=>none).getD 0
theorem under_Q:Tryz.prog.underlying 44=some (.map kQ 4):=by kernel_rfl
theorem keyed_Q:Keyed Tryz.prog kQ:=Keyed.of_law (deep_law_laid (m:=9) (by kernel_rfl) (by omega) (of_decide_eq_true (by kernel_rfl)) (by kernel_rfl) (by kernel_rfl))
theorem kl_u64 (d:Nat) (i:Int) (h:(Lit.int .u64 i).wf=true):Tryz.prog.keyLits (d+1) 45 [.int .u64 i]=some [.int .u64 i]:=by
 simp only [Program.keyLits,Tryz.underlying45,h,and_self,if_true]
theorem kl_bool (d:Nat) (b:Bool):Tryz.prog.keyLits (d+1) 4 [.bool b]=some [.bool b]:=by
 simp only [Program.keyLits,Tryz.underlying4]
theorem kl_str (d:Nat) (s:ByteArray) (h:s.size≤maxLen):Tryz.prog.keyLits (d+1) 9 [.string s]=some [.string s.data.toList]:=by
 simp only [Program.keyLits,Tryz.underlying9,h,if_true]
def fl (l:List (Option (List Lit))):Option (List Lit):=Option.map List.flatten (l.mapM fun x=>x)
theorem keyOf_funQ:(fun (a0:Int) (s0:ByteArray) (b0:Bool) (a1:Int) (s1:ByteArray) (a2:Int) (s2:ByteArray) (b2:Bool) (a3:Int) (s3:ByteArray)=>keyOf Tryz.prog kQ (.agg #[.int .u64 a0,.string s0,.bool b0,.int .u64 a1,.string s1,.int .u64 a2,.string s2,.bool b2,.int .u64 a3,.string s3])) =
  fun a0 s0 b0 a1 s1 a2 s2 b2 a3 s3=>Option.map (fun ls=>Lit.string (keyBytes ls)) (fl [fl [fl [fl [fl [Tryz.prog.keyLits 5 45 [.int .u64 a0],Tryz.prog.keyLits 5 9 [.string s0]]],Tryz.prog.keyLits 5 4 [.bool b0]],fl [Tryz.prog.keyLits 5 45 [.int .u64 a1],Tryz.prog.keyLits 5 9 [.string s1]]],fl [fl [fl [fl [Tryz.prog.keyLits 5 45 [.int .u64 a2],Tryz.prog.keyLits 5 9 [.string s2]]],Tryz.prog.keyLits 5 4 [.bool b2]],fl [Tryz.prog.keyLits 5 45 [.int .u64 a3],Tryz.prog.keyLits 5 9 [.string s3]]]]):=by kernel_rfl
theorem big_len (n:Nat) (h:wl n≤1000000000):(bigS n).size≤maxLen:=by
 unfold bigS
 split
 ·show(0:Nat)≤_;omega
 ·show(Array.size _)≤_
  simp [maxLen]
  omega
theorem u64_wf (n:Nat):(Lit.int .u64 (lowN n:Int)).wf=true:=by
 have:=lowN_lt n
 simp only [Lit.wf,Bool.and_eq_true,decide_eq_true_eq]
 constructor<;>simp [IntKind.min,IntKind.max,IntKind.signed,IntKind.bits]<;>omega
theorem wl_fm {q:Rat} (h:hw q≤1000000000):wl (sz q.num)≤1000000000∧wl (fm q)≤1000000000:=by
 unfold hw at h
 have h1:=wl_mono (a:=fm q) (b:=q.den) (by unfold fm;omega)
 omega
theorem keyOf_Q (p:Pt) (h:hp p≤1000000000):∃kl,keyOf Tryz.prog kQ (pV p)=some kl:=by
 unfold hp at h
 obtain ⟨x1,x2⟩:=wl_fm (q:=p.x) (by omega)
 obtain ⟨y1,y2⟩:=wl_fm (q:=p.y) (by omega)
 have e:=congrFun (congrFun (congrFun (congrFun (congrFun (congrFun (congrFun (congrFun (congrFun (congrFun keyOf_funQ (lowN (sz p.x.num):Int)) (bigS (sz p.x.num))) (ng p.x.num)) (lowN (fm p.x):Int)) (bigS (fm p.x))) (lowN (sz p.y.num):Int)) (bigS (sz p.y.num))) (ng p.y.num)) (lowN (fm p.y):Int)) (bigS (fm p.y))
 simp only [kl_u64 4 _ (u64_wf _),kl_bool,kl_str 4 _ (big_len _ x1),kl_str 4 _ (big_len _ x2),kl_str 4 _ (big_len _ y1),kl_str 4 _ (big_len _ y2)]at e
 refine Option.isSome_iff_exists.1 ?_
 show(keyOf Tryz.prog kQ (.agg #[.int .u64 (lowN (sz p.x.num):Int),.string (bigS (sz p.x.num)),.bool (ng p.x.num),.int .u64 (lowN (fm p.x):Int),.string (bigS (fm p.x)),.int .u64 (lowN (sz p.y.num):Int),.string (bigS (sz p.y.num)),.bool (ng p.y.num),.int .u64 (lowN (fm p.y):Int),.string (bigS (fm p.y))])).isSome=true
 rw [e]
 rfl
theorem pV_inj {p q:Pt} (h:pV p=pV q):p=q:=by
 simp only [pV,p2V,Value.agg.injEq,Array.mk.injEq,List.cons.injEq,Value.int.injEq,Value.string.injEq,Value.bool.injEq,true_and,and_true,Int.natCast_inj]at h
 obtain ⟨a1,a2,a3,a4,a5,b1,b2,b3,b4,b5⟩:=h
 exact Pt.ext' (qC_inj.1 ⟨⟨a1,a2⟩,a3,a4,a5⟩) (qC_inj.1 ⟨⟨b1,b2⟩,b3,b4,b5⟩)
abbrev onQ (p:Pt):Value×Value:=(pV p,.bool true)
abbrev MIQ (w:World) (b:Nat) (L:List Pt):Prop:=MI Tryz.prog kQ w b (L.map onQ)
theorem look_Q {w:World} {b:Nat} {L:List Pt} (h:MIQ w b L) {p:Pt} (hp':hp p≤1000000000) (hn:p ∉ L):(Instr.lookup 44 (.map (some b)) (pV p) false).run Tryz.prog w= .ok (.bool false) w:=by
 obtain ⟨kl,hkey⟩:=keyOf_Q p hp'
 have hz:(zeroValue 4).run Tryz.prog w= .ok (.bool false) w:=Tryz.zeroValue4 w
 exact MI.look_none false h keyed_Q under_Q hz hkey (fun q hq e=>by
  obtain ⟨x,hx,rfl⟩:=List.mem_map.1 hq
  exact hn (pV_inj e ▸ hx))
theorem MIQ.add {w:World} {b:Nat} {L:List Pt} (h:MIQ w b L) {p:Pt} (hp':hp p≤1000000000) (hn:p ∉ L) (hL:L.length<1000000):
  ∃w',(Instr.mapUpdate 44 (.map (some b)) (pV p) (.bool true)).run Tryz.prog w= .ok () w'∧MIQ w' b (L++ [p])∧Kp w w' (some b)∧w'.heap.size=w.heap.size:=by
 obtain ⟨kl,hkey⟩:=keyOf_Q p hp'
 obtain ⟨w',hr,hm',hkp,hs⟩:=MI.upd_new (val:= .bool true) h keyed_Q under_Q hkey (fun q hq e=>by
  obtain ⟨x,hx,rfl⟩:=List.mem_map.1 hq
  exact hn (pV_inj e ▸ hx)) (by simp [maxLen];omega)
 refine⟨w',hr,?_,hkp,hs⟩
 show MI _ _ _ _ ((L++ [p]).map onQ)
 rw [List.map_append]
 exact hm'
end Go.Proofs.YtjijceliboaeaaaGreatDoor
namespace Go.Proofs.YtjijceliboaeaaaGreatDoor
open Go.RowKit Gus Go.Maps
theorem ret_row3 {w:World} {g1 g2 g3:Nat} {c1 c2 c3:List Value} {P:Program} {fn:Func} {R:Ending→World→Prop} {a:Act} {s1 s2 s3:Nat} {t:TypeId} {d:TypeDesc} (hf:fn.results= #[.cell s1 t,.cell s2 t,.cell s3 t])
  (h1:a.tmps[s1]?.getD undef= .pointer (some ⟨g1,0,none⟩)) (h2:a.tmps[s2]?.getD undef= .pointer (some ⟨g2,0,none⟩)) (h3:a.tmps[s3]?.getD undef= .pointer (some ⟨g3,0,none⟩))
  (v1:VB w g1 c1) (v2:VB w g2 c2) (v3:VB w g3 c3) (hu:P.underlying t=some d) (hd:d.isRow=true) (i1:(P.info? t).map (·.size)=some c1.length) (i2:(P.info? t).map (·.size)=some c2.length) (i3:(P.info? t).map (·.size)=some c3.length) (hD:a.defers= []) (hR:R (.returned (.tuple #[.agg c1.toArray,.agg c2.toArray,.agg c3.toArray])) w):bodyPost P fn R .ret a w:=by
 refine bodyPost_ret (v:= .tuple #[.agg c1.toArray,.agg c2.toArray,.agg c3.toArray]) ?_ hD hR
 have l1:=run_loadVar_mid (P:=P) w g1 0 t c1 d v1.range hu hd i1
 have l2:=run_loadVar_mid (P:=P) w g2 0 t c2 d v2.range hu hd i2
 have l3:=run_loadVar_mid (P:=P) w g3 0 t c3 d v3.range hu hd i3
 simp only [results,hf,List.mapM_toArray,List.mapM_cons,List.mapM_nil,Array.getD_eq_getD_getElem?,h1,h2,h3,asAddr,Sem.run_bind,Functor.map]
 simp only [Sem.run_bind',Sem.run_bind,Sem.run_pure,Result.andThen_ok,l1,l2,l3,pure_bind,Function.comp]
 rfl
set_option maxRecDepth 20000 in
set_option maxHeartbeats 8000000 in
theorem ms_Corners (m:Msh) (vp vt vs:Value) (j:Nat) (t:Tri) (a b c:Pt) (w:World) (hM:MS w 0 vp vt vs m) (hlt:j<m.tris.length) (ht:m.tris[j]=t) (g1:t.1<m.pts.length) (g2:t.2.1<m.pts.length) (g3:t.2.2<m.pts.length) (ha:m.pts[t.1]=a) (hb:m.pts[t.2.1]=b) (hcc:m.pts[t.2.2]=c):
  Calls Tryz.prog 8 #[.agg #[vp,vt,vs],.int .i64 (j:Int)] w (Ret w (.tuple #[pV a,pV b,pV c])):=by
 have P1:=Lib.hid (fun W=>point_raw (p:=(t.1:Int)) (m:=(m.pts.length:Int)) (by omega) (by omega) W)
 have P2:=Lib.hid (fun W=>point_raw (p:=(t.2.1:Int)) (m:=(m.pts.length:Int)) (by omega) (by omega) W)
 have P3:=Lib.hid (fun W=>point_raw (p:=(t.2.2:Int)) (m:=(m.pts.length:Int)) (by omega) (by omega) W)
 obtain ⟨hP,hT,hS⟩:=hM
 obtain ⟨as_,cs,rfl⟩:=hS.at
 have l1:=hP.len
 have l2:=hT.len
 have hl1:(m.pts.length:Int)≤9223372036854775807:=by simp only [maxLen]at l1;omega
 have hl2:(m.tris.length:Int)≤9223372036854775807:=by simp only [maxLen]at l2;omega
 obtain ⟨g,ct,rfl,_,_,_,hsh,hR⟩:=hT.block (by intro e;rw [e]at hlt;simp at hlt)
 obtain ⟨gp,cp,rfl,_,_,_,hshp,hRp⟩:=hP.block (by intro e;rw [e]at g1;simp at g1)
 obtain ⟨v0,v1,v2⟩:=hR.fTri hlt ht
 obtain ⟨a0,a1,a2,a3,a4,a5,a6,a7,a8,a9⟩:=hRp.fPt g1 ha
 obtain ⟨c0,c1,c2,c3,c4,c5,c6,c7,c8,c9⟩:=hRp.fPt g2 hb
 obtain ⟨d0,d1,d2,d3,d4,d5,d6,d7,d8,d9⟩:=hRp.fPt g3 hcc
 have hgl:=hsh.lt
 have hgp:=hshp.lt
 have q0:(j:Int)<(m.tris.length:Int):=by omega
 have q00:(0:Int)≤(j:Int):=by omega
 have q1:(t.1:Int)<(m.pts.length:Int):=by omega
 have q2:(t.2.1:Int)<(m.pts.length:Int):=by omega
 have q3:(t.2.2:Int)<(m.pts.length:Int):=by omega
 clear hP hT hS hR hRp hsh hshp ht ha hb hcc hlt g1 g2 g3 l1 l2
 have n1:¬gp=w.heap.size:=by omega
 have n2:¬gp=w.heap.size+1:=by omega
 have n3:¬gp=w.heap.size+1+1:=by omega
 have n30:¬gp=w.heap.size+1+1+1:=by omega
 have n4:¬g=w.heap.size:=by omega
 have n5:¬g=w.heap.size+1:=by omega
 have n6:¬g=w.heap.size+1+1:=by omega
 have n7:¬g=w.heap.size+1+1+1:=by omega
 have k3:g<w.heap.size+1:=by omega
 have k4:g<w.heap.size+1+1:=by omega
 have k5:g<w.heap.size+1+1+1:=by omega
 go_enter Tryz.func8,Tryz.ntmps8
 go_upto_region 3 with fail
 go_cut [7,8] (fun s7 s8 wx=>s7= .pointer (some ⟨w.heap.size+1+1+1+1,0,none⟩)∧s8= .int .i64 (m.pts.length:Int)∧VB wx w.heap.size [.slice (some ⟨gp,0,none⟩) m.pts.length cp,.slice (some ⟨g,0,none⟩) m.tris.length ct,.slice as_ m.sides.length cs]∧VB wx (w.heap.size+1) [.int .u64 0,.string ⟨#[]⟩,.bool false,.int .u64 0,.string ⟨#[]⟩,.int .u64 0,.string ⟨#[]⟩,.bool false,.int .u64 0,.string ⟨#[]⟩]∧VB wx (w.heap.size+1+1) [.int .u64 0,.string ⟨#[]⟩,.bool false,.int .u64 0,.string ⟨#[]⟩,.int .u64 0,.string ⟨#[]⟩,.bool false,.int .u64 0,.string ⟨#[]⟩]∧VB wx (w.heap.size+1+1+1) [.int .u64 0,.string ⟨#[]⟩,.bool false,.int .u64 0,.string ⟨#[]⟩,.int .u64 0,.string ⟨#[]⟩,.bool false,.int .u64 0,.string ⟨#[]⟩]∧VB wx (w.heap.size+1+1+1+1) [.int .i64 (t.1:Int),.int .i64 (t.2.1:Int),.int .i64 (t.2.2:Int)]∧Gr w.heap.size w wx)
 case first=>
  refine wp_region_held_drew (S:=(fun w'=>w'.cell? ⟨w.heap.size,0,none⟩=some (.slice (some ⟨gp,0,none⟩) m.pts.length cp)∧w'.cell? ⟨w.heap.size,1,none⟩=some (.slice (some ⟨g,0,none⟩) m.tris.length ct)∧w'.cell? ⟨g,j*3,none⟩=some (.int .i64 (t.1:Int))∧w'.cell? ⟨g,j*3+1,none⟩=some (.int .i64 (t.2.1:Int))∧w'.cell? ⟨g,j*3+2,none⟩=some (.int .i64 (t.2.2:Int)))) (by kernel_rfl) ?_ (fun hHeld=>?_)
  ·simp [go_sem, *]
  refine tk 0 (some 21) (.pointer (some ⟨w.heap.size,1,none⟩)) ?_
  try simp only [pS]
  refine tk 1 (some 22) (.slice (some ⟨g,0,none⟩) m.tris.length ct) ?_
  try simp only [pS]
  refine tk 2 (some 23) (.int .i64 (j:Int)) ?_
  try simp only [pS]
  refine tk 3 (some 24) (.pointer (some ⟨g,j*3,none⟩)) ?_
  try simp only [pS]
  refine tk 4 (some 25) (.agg #[.int .i64 (t.1:Int),.int .i64 (t.2.1:Int),.int .i64 (t.2.2:Int)]) ?_
  try simp only [pS]
  refine tk 5 (some 26) (.pointer (some ⟨w.heap.size,0,none⟩)) ?_
  try simp only [pS]
  refine tk 6 (some 27) (.slice (some ⟨gp,0,none⟩) m.pts.length cp) ?_
  try simp only [pS]
  refine tk 7 (some 28) (.int .i64 (m.pts.length:Int)) ?_
  try simp only [pS]
  refine rd 8 (fun K hK=>?_)
  go_simp
  (try dsimp only)
  refine hK.out _ _ ?_ (fun hQ1=>?_)
  ·(first|exact trivial|((try dsimp only);simp [go_sem, *]))
  clear hK K hHeld
  try simp only [pS]
  refine rd 9 (fun K hK=>?_)
  go_simp
  (try dsimp only)
  refine hK.out _ _ ?_ (fun hQ2=>?_)
  ·(first|exact trivial|((try dsimp only);simp [go_sem, *]))
  clear hK K hQ1
  try simp only [pS]
  refine tk 10 (some 8) (.int .i64 (m.pts.length:Int)) ?_
  try simp only [pS]
  refine wpAnyH_done (by kernel_rfl) ?_ _
  go_wp2_with fail
  go_meet
  refine⟨rfl,rfl,by(with_reducible (repeat' (first|(refine VB.new' ?_;exact(by first|omega|(simp;done)|(simp;omega)))|apply VB.put2|apply VB.put3|apply VB.put5|refine VB.drew ?_|refine VB.far ?_ ?_ _|refine VB.alloc ?_ _|omega|(simp;done)|(simp;omega)))),by(with_reducible (repeat' (first|(refine VB.new' ?_;exact(by first|omega|(simp;done)|(simp;omega)))|apply VB.put2|apply VB.put3|apply VB.put5|refine VB.drew ?_|refine VB.far ?_ ?_ _|refine VB.alloc ?_ _|omega|(simp;done)|(simp;omega)))),by(with_reducible (repeat' (first|(refine VB.new' ?_;exact(by first|omega|(simp;done)|(simp;omega)))|apply VB.put2|apply VB.put3|apply VB.put5|refine VB.drew ?_|refine VB.far ?_ ?_ _|refine VB.alloc ?_ _|omega|(simp;done)|(simp;omega)))),by(with_reducible (repeat' (first|(refine VB.new' ?_;exact(by first|omega|(simp;done)|(simp;omega)))|apply VB.put2|apply VB.put3|apply VB.put5|refine VB.drew ?_|refine VB.far ?_ ?_ _|refine VB.alloc ?_ _|omega|(simp;done)|(simp;omega)))),by(with_reducible (repeat' (first|(refine VB.new' ?_;exact(by first|omega|(simp;done)|(simp;omega)))|apply VB.put2|apply VB.put3|apply VB.put5|refine VB.drew ?_|refine VB.far ?_ ?_ _|refine VB.alloc ?_ _|omega|(simp;done)|(simp;omega)))),by(with_reducible (repeat' (first|exact Gr.refl _ _|refine Gr.drew ?_|refine Gr.setCell ?_ ?_ _|refine Gr.alloc ?_ ?_ _|omega|(simp;done)|(simp;omega))))⟩
 case rest=>
  obtain ⟨wx,hwx⟩:∃q,q=wc:=⟨_,rfl⟩
  subst hwx
  obtain ⟨rfl,rfl,hV0,hV1,hV2,hV3,hV4,hgx⟩:=hcut
  have hszx:=hV4.lt
  rw [←hgx.cell (p:=⟨gp,t.1*10,none⟩) hgp]at a0
  rw [←hgx.cell (p:=⟨gp,t.1*10+1,none⟩) hgp]at a1
  rw [←hgx.cell (p:=⟨gp,t.1*10+2,none⟩) hgp]at a2
  rw [←hgx.cell (p:=⟨gp,t.1*10+3,none⟩) hgp]at a3
  rw [←hgx.cell (p:=⟨gp,t.1*10+4,none⟩) hgp]at a4
  rw [←hgx.cell (p:=⟨gp,t.1*10+5,none⟩) hgp]at a5
  rw [←hgx.cell (p:=⟨gp,t.1*10+6,none⟩) hgp]at a6
  rw [←hgx.cell (p:=⟨gp,t.1*10+7,none⟩) hgp]at a7
  rw [←hgx.cell (p:=⟨gp,t.1*10+8,none⟩) hgp]at a8
  rw [←hgx.cell (p:=⟨gp,t.1*10+9,none⟩) hgp]at a9
  rw [←hgx.cell (p:=⟨gp,t.2.1*10,none⟩) hgp]at c0
  rw [←hgx.cell (p:=⟨gp,t.2.1*10+1,none⟩) hgp]at c1
  rw [←hgx.cell (p:=⟨gp,t.2.1*10+2,none⟩) hgp]at c2
  rw [←hgx.cell (p:=⟨gp,t.2.1*10+3,none⟩) hgp]at c3
  rw [←hgx.cell (p:=⟨gp,t.2.1*10+4,none⟩) hgp]at c4
  rw [←hgx.cell (p:=⟨gp,t.2.1*10+5,none⟩) hgp]at c5
  rw [←hgx.cell (p:=⟨gp,t.2.1*10+6,none⟩) hgp]at c6
  rw [←hgx.cell (p:=⟨gp,t.2.1*10+7,none⟩) hgp]at c7
  rw [←hgx.cell (p:=⟨gp,t.2.1*10+8,none⟩) hgp]at c8
  rw [←hgx.cell (p:=⟨gp,t.2.1*10+9,none⟩) hgp]at c9
  rw [←hgx.cell (p:=⟨gp,t.2.2*10,none⟩) hgp]at d0
  rw [←hgx.cell (p:=⟨gp,t.2.2*10+1,none⟩) hgp]at d1
  rw [←hgx.cell (p:=⟨gp,t.2.2*10+2,none⟩) hgp]at d2
  rw [←hgx.cell (p:=⟨gp,t.2.2*10+3,none⟩) hgp]at d3
  rw [←hgx.cell (p:=⟨gp,t.2.2*10+4,none⟩) hgp]at d4
  rw [←hgx.cell (p:=⟨gp,t.2.2*10+5,none⟩) hgp]at d5
  rw [←hgx.cell (p:=⟨gp,t.2.2*10+6,none⟩) hgp]at d6
  rw [←hgx.cell (p:=⟨gp,t.2.2*10+7,none⟩) hgp]at d7
  rw [←hgx.cell (p:=⟨gp,t.2.2*10+8,none⟩) hgp]at d8
  rw [←hgx.cell (p:=⟨gp,t.2.2*10+9,none⟩) hgp]at d9
  have HV0:=Lib.hid hV0
  have HV1:=Lib.hid hV1
  have HV2:=Lib.hid hV2
  have HV3:=Lib.hid hV3
  have HV4:=Lib.hid hV4
  have HGX:=Lib.hid hgx
  obtain ⟨b0,b1,b2,-⟩:=HV0.out.three
  obtain ⟨e0,e1,e2,-⟩:=HV4.out.three
  clear hV0 hV1 hV2 hV3 hV4 hgx v0 v1 v2
  have hgpx:gp<wx.heap.size:=by omega
  have hb0:w.heap.size<wx.heap.size:=by omega
  have hb1:w.heap.size+1<wx.heap.size:=by omega
  have hb2:w.heap.size+1+1<wx.heap.size:=by omega
  have hb3:w.heap.size+1+1+1<wx.heap.size:=by omega
  have hb4:w.heap.size+1+1+1+1<wx.heap.size:=by omega
  go_wp2_with fail
  (refine(P1.out _).mono ?_;rintro e w1 ⟨rfl,hg1⟩;(try (with_reducible replace hg1:=Gr.of_drew hg1));have hsz1:=hg1.size;(try simp at hsz1);have hy1_0:gp<w1.heap.size:=(by omega);have hz1_0:w.heap.size<w1.heap.size:=(by omega);have hz1_1:w.heap.size+1<w1.heap.size:=(by omega);have hz1_2:w.heap.size+1+1<w1.heap.size:=(by omega);have hz1_3:w.heap.size+1+1+1<w1.heap.size:=(by omega);have hz1_4:w.heap.size+1+1+1+1<w1.heap.size:=(by omega);obtain ⟨hc1,hf1⟩:=hg1.cells;have HG1:=Lib.hid hg1;clear hg1)
  go_wp2_with fail
  (refine(P2.out _).mono ?_;rintro e w2 ⟨rfl,hg2⟩;(try (with_reducible replace hg2:=Gr.of_drew hg2));have hsz2:=hg2.size;(try simp at hsz2);have hy2_0:gp<w2.heap.size:=(by omega);have hz2_0:w.heap.size<w2.heap.size:=(by omega);have hz2_1:w.heap.size+1<w2.heap.size:=(by omega);have hz2_2:w.heap.size+1+1<w2.heap.size:=(by omega);have hz2_3:w.heap.size+1+1+1<w2.heap.size:=(by omega);have hz2_4:w.heap.size+1+1+1+1<w2.heap.size:=(by omega);obtain ⟨hc2,hf2⟩:=hg2.cells;have HG2:=Lib.hid hg2;clear hg2)
  go_wp2_with fail
  (refine(P3.out _).mono ?_;rintro e w3 ⟨rfl,hg3⟩;(try (with_reducible replace hg3:=Gr.of_drew hg3));have hsz3:=hg3.size;(try simp at hsz3);have hy3_0:gp<w3.heap.size:=(by omega);have hz3_0:w.heap.size<w3.heap.size:=(by omega);have hz3_1:w.heap.size+1<w3.heap.size:=(by omega);have hz3_2:w.heap.size+1+1<w3.heap.size:=(by omega);have hz3_3:w.heap.size+1+1+1<w3.heap.size:=(by omega);have hz3_4:w.heap.size+1+1+1+1<w3.heap.size:=(by omega);obtain ⟨hc3,hf3⟩:=hg3.cells;have HG3:=Lib.hid hg3;clear hg3)
  go_upto_region 6 with fail
  replace HV1:=Lib.hid (show VB w3 (w.heap.size+1) [.int .u64 0,.string ⟨#[]⟩,.bool false,.int .u64 0,.string ⟨#[]⟩,.int .u64 0,.string ⟨#[]⟩,.bool false,.int .u64 0,.string ⟨#[]⟩]from by(with_reducible (repeat' (first|(refine VB.new' ?_;exact(by first|omega|(simp;done)|(simp;omega)))|apply VB.put2|apply VB.put3|apply VB.put5|refine VB.drew ?_|refine VB.far ?_ ?_ _|refine VB.alloc ?_ _|exact HV1.out|refine VB.gr ?_ HG3.out ?_|refine VB.gr ?_ HG2.out ?_|refine VB.gr ?_ HG1.out ?_|omega|(simp;done)|(simp;omega)))))
  replace HV2:=Lib.hid (show VB w3 (w.heap.size+1+1) [.int .u64 0,.string ⟨#[]⟩,.bool false,.int .u64 0,.string ⟨#[]⟩,.int .u64 0,.string ⟨#[]⟩,.bool false,.int .u64 0,.string ⟨#[]⟩]from by(with_reducible (repeat' (first|(refine VB.new' ?_;exact(by first|omega|(simp;done)|(simp;omega)))|apply VB.put2|apply VB.put3|apply VB.put5|refine VB.drew ?_|refine VB.far ?_ ?_ _|refine VB.alloc ?_ _|exact HV2.out|refine VB.gr ?_ HG3.out ?_|refine VB.gr ?_ HG2.out ?_|refine VB.gr ?_ HG1.out ?_|omega|(simp;done)|(simp;omega)))))
  replace HV3:=Lib.hid (show VB w3 (w.heap.size+1+1+1) [.int .u64 0,.string ⟨#[]⟩,.bool false,.int .u64 0,.string ⟨#[]⟩,.int .u64 0,.string ⟨#[]⟩,.bool false,.int .u64 0,.string ⟨#[]⟩]from by(with_reducible (repeat' (first|(refine VB.new' ?_;exact(by first|omega|(simp;done)|(simp;omega)))|apply VB.put2|apply VB.put3|apply VB.put5|refine VB.drew ?_|refine VB.far ?_ ?_ _|refine VB.alloc ?_ _|exact HV3.out|refine VB.gr ?_ HG3.out ?_|refine VB.gr ?_ HG2.out ?_|refine VB.gr ?_ HG1.out ?_|omega|(simp;done)|(simp;omega)))))
  refine wp_region_held_drew (S:=(fun w'=>w'.cell? ⟨w.heap.size,0,none⟩=some (.slice (some ⟨gp,0,none⟩) m.pts.length cp)∧w'.cell? ⟨w.heap.size+1+1+1+1,0,none⟩=some (.int .i64 (t.1:Int))∧w'.cell? ⟨w.heap.size+1+1+1+1,1,none⟩=some (.int .i64 (t.2.1:Int))∧w'.cell? ⟨w.heap.size+1+1+1+1,2,none⟩=some (.int .i64 (t.2.2:Int))∧w'.cell? ⟨gp,t.1*10,none⟩=some (.int .u64 (lowN (sz a.x.num)))∧w'.cell? ⟨gp,t.1*10+1,none⟩=some (.string (bigS (sz a.x.num)))∧w'.cell? ⟨gp,t.1*10+2,none⟩=some (.bool (ng a.x.num))∧w'.cell? ⟨gp,t.1*10+3,none⟩=some (.int .u64 (lowN (fm a.x)))∧w'.cell? ⟨gp,t.1*10+4,none⟩=some (.string (bigS (fm a.x)))∧w'.cell? ⟨gp,t.1*10+5,none⟩=some (.int .u64 (lowN (sz a.y.num)))∧w'.cell? ⟨gp,t.1*10+6,none⟩=some (.string (bigS (sz a.y.num)))∧w'.cell? ⟨gp,t.1*10+7,none⟩=some (.bool (ng a.y.num))∧w'.cell? ⟨gp,t.1*10+8,none⟩=some (.int .u64 (lowN (fm a.y)))∧w'.cell? ⟨gp,t.1*10+9,none⟩=some (.string (bigS (fm a.y)))∧w'.cell? ⟨gp,t.2.1*10,none⟩=some (.int .u64 (lowN (sz b.x.num)))∧w'.cell? ⟨gp,t.2.1*10+1,none⟩=some (.string (bigS (sz b.x.num)))∧w'.cell? ⟨gp,t.2.1*10+2,none⟩=some (.bool (ng b.x.num))∧w'.cell? ⟨gp,t.2.1*10+3,none⟩=some (.int .u64 (lowN (fm b.x)))∧w'.cell? ⟨gp,t.2.1*10+4,none⟩=some (.string (bigS (fm b.x)))∧w'.cell? ⟨gp,t.2.1*10+5,none⟩=some (.int .u64 (lowN (sz b.y.num)))∧w'.cell? ⟨gp,t.2.1*10+6,none⟩=some (.string (bigS (sz b.y.num)))∧w'.cell? ⟨gp,t.2.1*10+7,none⟩=some (.bool (ng b.y.num))∧w'.cell? ⟨gp,t.2.1*10+8,none⟩=some (.int .u64 (lowN (fm b.y)))∧w'.cell? ⟨gp,t.2.1*10+9,none⟩=some (.string (bigS (fm b.y)))∧w'.cell? ⟨gp,t.2.2*10,none⟩=some (.int .u64 (lowN (sz c.x.num)))∧w'.cell? ⟨gp,t.2.2*10+1,none⟩=some (.string (bigS (sz c.x.num)))∧w'.cell? ⟨gp,t.2.2*10+2,none⟩=some (.bool (ng c.x.num))∧w'.cell? ⟨gp,t.2.2*10+3,none⟩=some (.int .u64 (lowN (fm c.x)))∧w'.cell? ⟨gp,t.2.2*10+4,none⟩=some (.string (bigS (fm c.x)))∧w'.cell? ⟨gp,t.2.2*10+5,none⟩=some (.int .u64 (lowN (sz c.y.num)))∧w'.cell? ⟨gp,t.2.2*10+6,none⟩=some (.string (bigS (sz c.y.num)))∧w'.cell? ⟨gp,t.2.2*10+7,none⟩=some (.bool (ng c.y.num))∧w'.cell? ⟨gp,t.2.2*10+8,none⟩=some (.int .u64 (lowN (fm c.y)))∧w'.cell? ⟨gp,t.2.2*10+9,none⟩=some (.string (bigS (fm c.y))))) (by kernel_rfl) ?_ (fun hHeld=>?_)
  ·simp [go_sem, *]
  refine tk 0 (some 51) (.pointer (some ⟨w.heap.size,0,none⟩)) ?_
  try simp only [pS]
  refine tk 1 (some 52) (.slice (some ⟨gp,0,none⟩) m.pts.length cp) ?_
  try simp only [pS]
  refine tk 2 (some 53) (.pointer (some ⟨w.heap.size+1+1+1+1,0,none⟩)) ?_
  try simp only [pS]
  refine tk 3 (some 54) (.int .i64 (t.1:Int)) ?_
  try simp only [pS]
  refine tk 4 (some 55) (.pointer (some ⟨gp,t.1*10,none⟩)) ?_
  try simp only [pS]
  refine tk 5 (some 56) (.agg #[.int .u64 (lowN (sz a.x.num)),.string (bigS (sz a.x.num)),.bool (ng a.x.num),.int .u64 (lowN (fm a.x)),.string (bigS (fm a.x)),.int .u64 (lowN (sz a.y.num)),.string (bigS (sz a.y.num)),.bool (ng a.y.num),.int .u64 (lowN (fm a.y)),.string (bigS (fm a.y))]) ?_
  try simp only [pS]
  refine tk 6 (some 57) (.pointer (some ⟨w.heap.size,0,none⟩)) ?_
  try simp only [pS]
  refine tk 7 (some 58) (.slice (some ⟨gp,0,none⟩) m.pts.length cp) ?_
  try simp only [pS]
  refine tk 8 (some 59) (.pointer (some ⟨w.heap.size+1+1+1+1,1,none⟩)) ?_
  try simp only [pS]
  refine tk 9 (some 60) (.int .i64 (t.2.1:Int)) ?_
  try simp only [pS]
  refine tk 10 (some 61) (.pointer (some ⟨gp,t.2.1*10,none⟩)) ?_
  try simp only [pS]
  refine tk 11 (some 62) (.agg #[.int .u64 (lowN (sz b.x.num)),.string (bigS (sz b.x.num)),.bool (ng b.x.num),.int .u64 (lowN (fm b.x)),.string (bigS (fm b.x)),.int .u64 (lowN (sz b.y.num)),.string (bigS (sz b.y.num)),.bool (ng b.y.num),.int .u64 (lowN (fm b.y)),.string (bigS (fm b.y))]) ?_
  try simp only [pS]
  refine tk 12 (some 63) (.pointer (some ⟨w.heap.size,0,none⟩)) ?_
  try simp only [pS]
  refine tk 13 (some 64) (.slice (some ⟨gp,0,none⟩) m.pts.length cp) ?_
  try simp only [pS]
  refine tk 14 (some 65) (.pointer (some ⟨w.heap.size+1+1+1+1,2,none⟩)) ?_
  try simp only [pS]
  refine tk 15 (some 66) (.int .i64 (t.2.2:Int)) ?_
  try simp only [pS]
  refine tk 16 (some 67) (.pointer (some ⟨gp,t.2.2*10,none⟩)) ?_
  try simp only [pS]
  refine tk 17 (some 68) (.agg #[.int .u64 (lowN (sz c.x.num)),.string (bigS (sz c.x.num)),.bool (ng c.x.num),.int .u64 (lowN (fm c.x)),.string (bigS (fm c.x)),.int .u64 (lowN (sz c.y.num)),.string (bigS (sz c.y.num)),.bool (ng c.y.num),.int .u64 (lowN (fm c.y)),.string (bigS (fm c.y))]) ?_
  try simp only [pS]
  refine wpAnyH_ready (rs:= [18]) (by kernel_rfl) (by simp) ?_
  refine AllReadyH.cons (o:=⟨none,_,_,_,_,_⟩) rfl (fun K hK=>?_) AllReadyH.nil
  rw [if_pos (by rfl)]
  refine wp_store_mid 55 _ _ rfl (w.heap.size+1) 0 (List.toArray [.int .u64 (lowN (sz a.x.num)),.string (bigS (sz a.x.num)),.bool (ng a.x.num),.int .u64 (lowN (fm a.x)),.string (bigS (fm a.x)),.int .u64 (lowN (sz a.y.num)),.string (bigS (sz a.y.num)),.bool (ng a.y.num),.int .u64 (lowN (fm a.y)),.string (bigS (fm a.y))]) rfl rfl (VB.there (cs:= [.int .u64 0,.string ⟨#[]⟩,.bool false,.int .u64 0,.string ⟨#[]⟩,.int .u64 0,.string ⟨#[]⟩,.bool false,.int .u64 0,.string ⟨#[]⟩]) HV1.out.drew) info_Point (by first|rfl|simp [Value.oneCell']) ?_
  try simp only [pS]
  try simp only [List.toList_toArray]
  refine(show ∀wy:World,VB wy (w.heap.size+1) [.int .u64 (lowN (sz a.x.num)),.string (bigS (sz a.x.num)),.bool (ng a.x.num),.int .u64 (lowN (fm a.x)),.string (bigS (fm a.x)),.int .u64 (lowN (sz a.y.num)),.string (bigS (sz a.y.num)),.bool (ng a.y.num),.int .u64 (lowN (fm a.y)),.string (bigS (fm a.y))]→VB wy (w.heap.size+1+1) [.int .u64 0,.string ⟨#[]⟩,.bool false,.int .u64 0,.string ⟨#[]⟩,.int .u64 0,.string ⟨#[]⟩,.bool false,.int .u64 0,.string ⟨#[]⟩]→VB wy (w.heap.size+1+1+1) [.int .u64 0,.string ⟨#[]⟩,.bool false,.int .u64 0,.string ⟨#[]⟩,.int .u64 0,.string ⟨#[]⟩,.bool false,.int .u64 0,.string ⟨#[]⟩]→Gr w.heap.size w wy→(∀b o,b≠w.heap.size+1→wy.cell? ⟨b,o,none⟩=w3.drew.cell? ⟨b,o,none⟩)→K _ wy from ?_) _ (VB.set HV1.out.drew _ rfl) (VB.fars (by omega) _ _ HV2.out.drew) (VB.fars (by omega) _ _ HV3.out.drew) (Gr.sets (by omega) _ _ (by(with_reducible (repeat' (first|exact Gr.refl _ _|refine Gr.drew ?_|refine Gr.setCell ?_ ?_ _|refine Gr.alloc ?_ ?_ _|refine Gr.trans ?_ (Gr.mono HG3.out ?_)|refine Gr.trans ?_ (Gr.mono HG2.out ?_)|refine Gr.trans ?_ (Gr.mono HG1.out ?_)|refine Gr.trans ?_ (Gr.mono HGX.out ?_)|omega|(simp;done)|(simp;omega)))))) (fun b o hb=>cell_sets_ne hb _ _ _ _)
  intro wy1 hA1 hA2 hA3 hgs hcs
  refine hK.out _ _ ?_ (fun hQ1=>?_)
  ·have hh:=hHeld;(try dsimp only at hh ⊢);simp only [hcs (w.heap.size) _ (show w.heap.size≠w.heap.size+1 by omega),hcs (w.heap.size+1+1+1+1) _ (show w.heap.size+1+1+1+1≠w.heap.size+1 by omega),hcs gp _ (show gp≠w.heap.size+1 by omega)];exact hh
  clear hK K hHeld hcs
  have HA11:=Lib.hid hA1
  have HA12:=Lib.hid hA2
  have HA13:=Lib.hid hA3
  have HGS1:=Lib.hid hgs
  clear hA1 hA2 hA3 hgs
  refine wpAnyH_ready (rs:= [19]) (by kernel_rfl) (by simp) ?_
  refine AllReadyH.cons (o:=⟨none,_,_,_,_,_⟩) rfl (fun K hK=>?_) AllReadyH.nil
  rw [if_pos (by rfl)]
  refine wp_store_mid 55 _ _ rfl (w.heap.size+1+1) 0 (List.toArray [.int .u64 (lowN (sz b.x.num)),.string (bigS (sz b.x.num)),.bool (ng b.x.num),.int .u64 (lowN (fm b.x)),.string (bigS (fm b.x)),.int .u64 (lowN (sz b.y.num)),.string (bigS (sz b.y.num)),.bool (ng b.y.num),.int .u64 (lowN (fm b.y)),.string (bigS (fm b.y))]) rfl rfl (VB.there (cs:= [.int .u64 0,.string ⟨#[]⟩,.bool false,.int .u64 0,.string ⟨#[]⟩,.int .u64 0,.string ⟨#[]⟩,.bool false,.int .u64 0,.string ⟨#[]⟩]) HA12.out) info_Point (by first|rfl|simp [Value.oneCell']) ?_
  try simp only [pS]
  try simp only [List.toList_toArray]
  refine(show ∀wy:World,VB wy (w.heap.size+1) [.int .u64 (lowN (sz a.x.num)),.string (bigS (sz a.x.num)),.bool (ng a.x.num),.int .u64 (lowN (fm a.x)),.string (bigS (fm a.x)),.int .u64 (lowN (sz a.y.num)),.string (bigS (sz a.y.num)),.bool (ng a.y.num),.int .u64 (lowN (fm a.y)),.string (bigS (fm a.y))]→VB wy (w.heap.size+1+1) [.int .u64 (lowN (sz b.x.num)),.string (bigS (sz b.x.num)),.bool (ng b.x.num),.int .u64 (lowN (fm b.x)),.string (bigS (fm b.x)),.int .u64 (lowN (sz b.y.num)),.string (bigS (sz b.y.num)),.bool (ng b.y.num),.int .u64 (lowN (fm b.y)),.string (bigS (fm b.y))]→VB wy (w.heap.size+1+1+1) [.int .u64 0,.string ⟨#[]⟩,.bool false,.int .u64 0,.string ⟨#[]⟩,.int .u64 0,.string ⟨#[]⟩,.bool false,.int .u64 0,.string ⟨#[]⟩]→Gr w.heap.size w wy→(∀b o,b≠w.heap.size+1+1→wy.cell? ⟨b,o,none⟩=wy1.cell? ⟨b,o,none⟩)→K _ wy from ?_) _ (VB.fars (by omega) _ _ HA11.out) (VB.set HA12.out _ rfl) (VB.fars (by omega) _ _ HA13.out) (Gr.sets (by omega) _ _ HGS1.out) (fun b o hb=>cell_sets_ne hb _ _ _ _)
  intro wy2 hA1 hA2 hA3 hgs hcs
  refine hK.out _ _ ?_ (fun hQ2=>?_)
  ·have hh:=hQ1;(try dsimp only at hh ⊢);simp only [hcs (w.heap.size) _ (show w.heap.size≠w.heap.size+1+1 by omega),hcs (w.heap.size+1+1+1+1) _ (show w.heap.size+1+1+1+1≠w.heap.size+1+1 by omega),hcs gp _ (show gp≠w.heap.size+1+1 by omega)];exact hh
  clear hK K hQ1 hcs
  have HA21:=Lib.hid hA1
  have HA22:=Lib.hid hA2
  have HA23:=Lib.hid hA3
  have HGS2:=Lib.hid hgs
  clear hA1 hA2 hA3 hgs
  refine wpAnyH_ready (rs:= [20]) (by kernel_rfl) (by simp) ?_
  refine AllReadyH.cons (o:=⟨none,_,_,_,_,_⟩) rfl (fun K hK=>?_) AllReadyH.nil
  rw [if_pos (by rfl)]
  refine wp_store_mid 55 _ _ rfl (w.heap.size+1+1+1) 0 (List.toArray [.int .u64 (lowN (sz c.x.num)),.string (bigS (sz c.x.num)),.bool (ng c.x.num),.int .u64 (lowN (fm c.x)),.string (bigS (fm c.x)),.int .u64 (lowN (sz c.y.num)),.string (bigS (sz c.y.num)),.bool (ng c.y.num),.int .u64 (lowN (fm c.y)),.string (bigS (fm c.y))]) rfl rfl (VB.there (cs:= [.int .u64 0,.string ⟨#[]⟩,.bool false,.int .u64 0,.string ⟨#[]⟩,.int .u64 0,.string ⟨#[]⟩,.bool false,.int .u64 0,.string ⟨#[]⟩]) HA23.out) info_Point (by first|rfl|simp [Value.oneCell']) ?_
  try simp only [pS]
  try simp only [List.toList_toArray]
  refine(show ∀wy:World,VB wy (w.heap.size+1) [.int .u64 (lowN (sz a.x.num)),.string (bigS (sz a.x.num)),.bool (ng a.x.num),.int .u64 (lowN (fm a.x)),.string (bigS (fm a.x)),.int .u64 (lowN (sz a.y.num)),.string (bigS (sz a.y.num)),.bool (ng a.y.num),.int .u64 (lowN (fm a.y)),.string (bigS (fm a.y))]→VB wy (w.heap.size+1+1) [.int .u64 (lowN (sz b.x.num)),.string (bigS (sz b.x.num)),.bool (ng b.x.num),.int .u64 (lowN (fm b.x)),.string (bigS (fm b.x)),.int .u64 (lowN (sz b.y.num)),.string (bigS (sz b.y.num)),.bool (ng b.y.num),.int .u64 (lowN (fm b.y)),.string (bigS (fm b.y))]→VB wy (w.heap.size+1+1+1) [.int .u64 (lowN (sz c.x.num)),.string (bigS (sz c.x.num)),.bool (ng c.x.num),.int .u64 (lowN (fm c.x)),.string (bigS (fm c.x)),.int .u64 (lowN (sz c.y.num)),.string (bigS (sz c.y.num)),.bool (ng c.y.num),.int .u64 (lowN (fm c.y)),.string (bigS (fm c.y))]→Gr w.heap.size w wy→(∀b o,b≠w.heap.size+1+1+1→wy.cell? ⟨b,o,none⟩=wy2.cell? ⟨b,o,none⟩)→K _ wy from ?_) _ (VB.fars (by omega) _ _ HA21.out) (VB.fars (by omega) _ _ HA22.out) (VB.set HA23.out _ rfl) (Gr.sets (by omega) _ _ HGS2.out) (fun b o hb=>cell_sets_ne hb _ _ _ _)
  intro wy3 hA1 hA2 hA3 hgs hcs
  refine hK.out _ _ ?_ (fun hQ3=>?_)
  ·have hh:=hQ2;(try dsimp only at hh ⊢);simp only [hcs (w.heap.size) _ (show w.heap.size≠w.heap.size+1+1+1 by omega),hcs (w.heap.size+1+1+1+1) _ (show w.heap.size+1+1+1+1≠w.heap.size+1+1+1 by omega),hcs gp _ (show gp≠w.heap.size+1+1+1 by omega)];exact hh
  clear hK K hQ2 hcs
  have HA31:=Lib.hid hA1
  have HA32:=Lib.hid hA2
  have HA33:=Lib.hid hA3
  have HGS3:=Lib.hid hgs
  clear hA1 hA2 hA3 hgs
  refine wpAnyH_done (by kernel_rfl) ?_ _
  go_wp2
  refine ret_row3 (g1:=w.heap.size+1) (g2:=w.heap.size+1+1) (g3:=w.heap.size+1+1+1) Tryz.results8 rfl rfl rfl HA31.out HA32.out HA33.out Tryz.underlying55 rfl info_Point info_Point info_Point rfl ⟨rfl,HGS3.out⟩
end Go.Proofs.YtjijceliboaeaaaGreatDoor
namespace Go.Proofs.YtjijceliboaeaaaGreatDoor
open Go.RowKit Gus Go.Maps
noncomputable abbrev tlP (n:Nat):Code:=tailW n ((Tryz.f3).body.getD .skip)
variable {vv0 vv1 vv2 vv3 vv4 vv5 vv6 vv7 vv8 vv9 vv10 vv11 vv12 vv13 vv14 vv15 vv16 vv17 vv18 vv19 vv20 vv21 vv22 vv23 vv24 vv25 vv26 vv27 vv28 vv29 vv30 vv31 vv32 vv33 vv34 vv35 vv36 vv37 vv38 vv39 vv40 vv41 vv42 vv43 vv44 vv45 vv46 vv47 vv48 vv49 vv50 vv51 vv52 vv53 vv54 vv55 vv56 vv57 vv58 vv59 vv60 vv61 vv62 vv63 vv64 vv65 vv66 vv67 vv68 vv69 vv70 vv71 vv72 vv73 vv74 vv75 vv76 vv77 vv78 vv79 vv80 vv81 vv82 vv83 vv84 vv85 vv86 vv87 vv88 vv89 vv90 vv91 vv92 vv93 vv94 vv95 vv96 vv97 vv98 vv99 vv100 vv101 vv102 vv103 vv104 vv105 vv106 vv107 vv108 vv109 vv110 vv111 vv112 vv113 vv114 vv115 vv116 vv117 vv118 vv119 vv120 vv121 vv122 vv123 vv124 vv125 vv126 vv127 vv128 vv129 vv130 vv131 vv132 vv133 vv134 vv135 vv136 vv137 vv138 vv139 vv140 vv141 vv142 vv143 vv144 vv145 vv146 vv147 vv148 vv149 vv150 vv151 vv152 vv153 vv154 vv155 vv156 vv157 vv158 vv159 vv160 vv161 vv162 vv163 vv164 vv165 vv166 vv167 vv168 vv169 vv170 vv171 vv172 vv173 vv174 vv175 vv176 vv177 vv178 vv179 vv180 vv181 vv182 vv183 vv184 vv185 vv186 vv187 vv188:Value}
set_option maxRecDepth 20000 in
set_option maxHeartbeats 8000000 in
theorem pl23 (w W:World) (m:Msh) (o N E tb sb mp:Nat) (ax ay az:Option Addr) (cx cy cz:Nat) (hb:Below w.heap.size w W) (hT:VB W tb [.int .i64 (o:Int),.int .i64 (N:Int),.slice ax m.tris.length cx,.slice ay N cy,.slice az E cz]) (hA:SR pC 10 55 W 0 (.slice ay N cy) (atM o m)) (hN:(atM o m).length=N) (hNl:N≤5000) (hU:VB W sb ((List.replicate N true).map Value.bool)) (hM:MIQ W mp []) (hnd:(atM o m).Nodup) (hat:∀p∈atM o m,hp p≤1000000000) (hTo:tb≠mp) (hSo:sb≠mp) (hAo:∀g,(Value.slice ay N cy).ownBlock=some g→g≠mp) (hwmp:w.heap.size≤mp):
  Code.wp Tryz.prog (tlP 23) (bodyPost Tryz.prog Tryz.f3 (fun e w'=>e= .returned (.bool true)∧Below w.heap.size w w')) {tmps:= #[vv0,vv1,vv2,vv3,vv4,vv5,.pointer (some ⟨tb,0,none⟩),vv7,.slice (some ⟨sb,0,none⟩) N N,.map (some mp),vv10,vv11,vv12,vv13,vv14,vv15,vv16,vv17,vv18,vv19,vv20,vv21,vv22,vv23,vv24,vv25,vv26,vv27,vv28,vv29,vv30,vv31,vv32,vv33,vv34,vv35,vv36,vv37,vv38,vv39,vv40,vv41,vv42,vv43,vv44,vv45,vv46,vv47,vv48,vv49,vv50,vv51,vv52,vv53,vv54,vv55,vv56,vv57,vv58,vv59,vv60,vv61,vv62,vv63,vv64,vv65,vv66,vv67,vv68,vv69,vv70,vv71,vv72,vv73,vv74,vv75,vv76,vv77,vv78,vv79,vv80,vv81,vv82,vv83,vv84,vv85,vv86,vv87,vv88,vv89,vv90,vv91,vv92,vv93,vv94,vv95,vv96,vv97,vv98,vv99,vv100,vv101,vv102,vv103,vv104,vv105,vv106,vv107,vv108,vv109,vv110,vv111,vv112,vv113,vv114,vv115,vv116,vv117,vv118,vv119,vv120,vv121,vv122,vv123,vv124,vv125,vv126,vv127,vv128,vv129,vv130,vv131,vv132,vv133,vv134,vv135,vv136,vv137,vv138,vv139,vv140,vv141,vv142,vv143,vv144,vv145,vv146,vv147,vv148,vv149,vv150,vv151,vv152,vv153,vv154,vv155,vv156,vv157,vv158,vv159,vv160,vv161,vv162,vv163,vv164,vv165,vv166,vv167,vv168,vv169,vv170,vv171,vv172,vv173,vv174,vv175,vv176,vv177,vv178,vv179,vv180,vv181,vv182,vv183,vv184,vv185,vv186,vv187,vv188],defers:= []} W:=by
 have HBW:=Lib.hid hb
 have HT:=Lib.hid hT
 have HA:=Lib.hid hA
 have HN:=Lib.hid hN
 have HU:=Lib.hid hU
 have HM:=Lib.hid hM
 have HND:=Lib.hid hnd
 have HAT:=Lib.hid hat
 have HAO:=Lib.hid hAo
 have htl:=hT.lt
 have hul:=hU.lt
 have Y1:=Lib.hid (hT.c 1 _ rfl)
 have Y3:=Lib.hid (hT.c 3 _ rfl)
 clear hb hT hA hN hU hM hnd hat hAo
 refine wp_seq_k (fun K1 hK1=>?_)
 go_wp2
 go_loopw [18] (fun s wr=> ∃k:Nat,k≤N∧s= .int .i64 k∧Hid (MIQ wr mp ((atM o m).take k))∧Hid (Kp W wr (some mp))) (fun s _=>N - (intOf s).toNat)
 case atStart=>exact⟨0,Nat.zero_le _,rfl,HM,Lib.hid ((Gr.refl _ _).kp _)⟩
 case round=>
  clear HM
  obtain ⟨k,hk,rfl,HM,HK⟩:=hrel
  have hszq:=HK.out.g.size
  have hmlr:=HM.out.lt
  have y1:=(HK.out.cell (b:=tb) (o:=1) htl (fun e=>hTo (Option.some.inj e))).trans Y1.out
  have htbr:tb<wr.heap.size:=by omega
  by_cases hlt:k<N
  ·have qk:(k:Int)<(N:Int):=by omega
   have qk0:(0:Int)≤(k:Int):=by omega
   have hka:k<(atM o m).length:=by rw [HN.out];exact hlt
   obtain ⟨P,hP9⟩:∃P,(atM o m)[k]=P:=⟨_,rfl⟩
   have HPk:=HAT.out P (hP9 ▸ List.getElem_mem hka)
   have hnm:P ∉ (atM o m).take k:=by
    intro hm
    obtain ⟨i,hi,hi2⟩:=List.getElem_of_mem hm
    rw [List.length_take]at hi
    rw [List.getElem_take,←hP9]at hi2
    exact List.pairwise_iff_getElem.1 HND.out i k (by omega) hka (by omega) hi2
   have hnx:Hid ((atM o m).take (k+1)=(atM o m).take k++ [P]):=Lib.hid (by rw [List.take_add_one,List.getElem?_eq_getElem hka,hP9];rfl)
   have hlk:(Instr.lookup 44 (.map (some mp)) (.agg #[.int .u64 (lowN (sz P.x.num)),.string (bigS (sz P.x.num)),.bool (ng P.x.num),.int .u64 (lowN (fm P.x)),.string (bigS (fm P.x)),.int .u64 (lowN (sz P.y.num)),.string (bigS (sz P.y.num)),.bool (ng P.y.num),.int .u64 (lowN (fm P.y)),.string (bigS (fm P.y))]) false).run Tryz.prog wr= .ok (.bool false) wr:=look_Q HM.out HPk hnm
   have HADD:=Lib.hid (MIQ.add HM.out HPk hnm (by rw [List.length_take];omega))
   obtain ⟨ga,ca,e4,_,_,_,hsa,hRa⟩:=HA.out.block (by intro e;rw [e]at hka;simp at hka)
   injection e4 with e4 e6 e5
   clear e6
   subst e4 e5
   have hga:=hsa.lt
   have hgo:=HAO.out ga rfl
   obtain ⟨d0,d1,d2,d3,d4,d5,d6,d7,d8,d9⟩:=hRa.fPt hka hP9
   clear hRa hsa hP9
   rw [←HK.out.cell (b:=ga) (o:=k*10) hga (fun e=>hgo (Option.some.inj e))]at d0
   rw [←HK.out.cell (b:=ga) (o:=k*10+1) hga (fun e=>hgo (Option.some.inj e))]at d1
   rw [←HK.out.cell (b:=ga) (o:=k*10+2) hga (fun e=>hgo (Option.some.inj e))]at d2
   rw [←HK.out.cell (b:=ga) (o:=k*10+3) hga (fun e=>hgo (Option.some.inj e))]at d3
   rw [←HK.out.cell (b:=ga) (o:=k*10+4) hga (fun e=>hgo (Option.some.inj e))]at d4
   rw [←HK.out.cell (b:=ga) (o:=k*10+5) hga (fun e=>hgo (Option.some.inj e))]at d5
   rw [←HK.out.cell (b:=ga) (o:=k*10+6) hga (fun e=>hgo (Option.some.inj e))]at d6
   rw [←HK.out.cell (b:=ga) (o:=k*10+7) hga (fun e=>hgo (Option.some.inj e))]at d7
   rw [←HK.out.cell (b:=ga) (o:=k*10+8) hga (fun e=>hgo (Option.some.inj e))]at d8
   rw [←HK.out.cell (b:=ga) (o:=k*10+9) hga (fun e=>hgo (Option.some.inj e))]at d9
   have y3:=(HK.out.cell (b:=tb) (o:=3) htl (fun e=>hTo (Option.some.inj e))).trans Y3.out
   have hgar:ga<wr.heap.size:=by omega
   have husr:sb<wr.heap.size:=by omega
   have u0:=(HK.out.cell (b:=sb) (o:=k) hul (fun e=>hSo (Option.some.inj e))).trans (HU.out.c k (.bool true) (by rw [List.getElem?_map,List.getElem?_replicate,if_pos hlt];rfl))
   clear hnm
   go_wp2_with (first|(at_mapUpdate;refine wpM_upd _ (b:=mp) rfl _ _ _ rfl rfl HADD.out ?_;rintro w3 ⟨hmi3,hkp3,hsz3⟩;have HMI3:=Lib.hid hmi3;have HKP3:=Lib.hid hkp3;clear hmi3 hkp3))
   go_roundw
   case rel=>exact⟨k+1,by omega,by go_num,Lib.hid (by rw [hnx.out];exact HMI3.out),Lib.hid (HK.out.trans HKP3.out)⟩
   case measure=>simp [intOf];omega
  ·have hkl:k=N:=by omega
   subst hkl
   go_wp2_with fail
   refine(law_lives _).mono ?_
   rintro e w9 ⟨rfl,hb9⟩
   have HB9:=Lib.hid hb9
   clear hb9
   go_wp2
   go_ret
   exact⟨rfl,HBW.out.trans (((HK.out.gr (fun b e=>by have:=Option.some.inj e;omega) HBW.out.size).below).trans ((show Gr wr.heap.size wr _ from by(with_reducible (repeat' (first|exact Gr.refl _ _|refine Gr.drew ?_|refine Gr.setCell ?_ ?_ _|refine Gr.alloc ?_ ?_ _|omega|(simp;done)|(simp;omega))))).below.trans (HB9.out.mono (by simp)) |>.mono (by have:=HBW.out.size;omega)))⟩
end Go.Proofs.YtjijceliboaeaaaGreatDoor
