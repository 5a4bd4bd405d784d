/-
  Part 33 of the proof: PlaC HeldL.
-/
import Derived.Test.YtfgmdhjmgdccdaaGreatJ14
import Derived.Test.YtfgmdhjmgdccdaaGreatJ16
import Derived.Test.YtfgmdhjmgdccdaaGreatJ11
import Derived.Test.YtfgmdhjmgdccdaaGreatJ2
import Derived.Maps.RangeWalk
import Derived.WideKeyEntry
import Derived.Lib.SliceRun
import Derived.Deep.Upon
import Derived.ChangeKeysEq
import Derived.ReadAgain
import Derived.ChangeBook
import Derived.ChangeOld
import Derived.Deep.Slices
set_option linter.unusedSimpArgs false
set_option linter.unusedVariables false
set_option maxHeartbeats 8000000
namespace Go.Proofs.YtfgmdhjmgdccdaaGreat
open Go.RowKit Gus Go.Maps
theorem ret_row3 {w:World} {g1 g2 g3:Nat} {c1 c2 c3:List Value} {P:Program} {fn:Func} {R:Ending→World→Prop} {a:Act} {s1 s2 s3:Nat} {t:TypeId} {d:TypeDesc} (hf:fn.results= #[.cell s1 t,.cell s2 t,.cell s3 t])
  (h1:a.tmps[s1]?.getD undef= .pointer (some ⟨g1,0,none⟩)) (h2:a.tmps[s2]?.getD undef= .pointer (some ⟨g2,0,none⟩)) (h3:a.tmps[s3]?.getD undef= .pointer (some ⟨g3,0,none⟩))
  (v1:VB w g1 c1) (v2:VB w g2 c2) (v3:VB w g3 c3) (hu:P.underlying t=some d) (hd:d.isRow=true) (i1:(P.info? t).map (·.size)=some c1.length) (i2:(P.info? t).map (·.size)=some c2.length) (i3:(P.info? t).map (·.size)=some c3.length) (hD:a.defers= []) (hR:R (.returned (.tuple #[.agg c1.toArray,.agg c2.toArray,.agg c3.toArray])) w):bodyPost P fn R .ret a w:=by
 refine bodyPost_ret (v:= .tuple #[.agg c1.toArray,.agg c2.toArray,.agg c3.toArray]) ?_ hD hR
 have l1:=run_loadVar_mid (P:=P) w g1 0 t c1 d v1.range hu hd i1
 have l2:=run_loadVar_mid (P:=P) w g2 0 t c2 d v2.range hu hd i2
 have l3:=run_loadVar_mid (P:=P) w g3 0 t c3 d v3.range hu hd i3
 simp only [results,hf,List.mapM_toArray,List.mapM_cons,List.mapM_nil,Array.getD_eq_getD_getElem?,h1,h2,h3,asAddr,Sem.run_bind,Functor.map]
 simp only [Sem.run_bind',Sem.run_bind,Sem.run_pure,Result.andThen_ok,l1,l2,l3,pure_bind,Function.comp]
 rfl
set_option maxRecDepth 20000 in
theorem ms_Corners (m:Msh) (vp vt vs:Value) (j:Nat) (t:Tri) (a b c:Pt) (w:World) (hM:MS w 0 vp vt vs m) (hlt:j<m.tris.length) (ht:m.tris[j]=t) (g1:t.1<m.pts.length) (g2:t.2.1<m.pts.length) (g3:t.2.2<m.pts.length) (ha:m.pts[t.1]=a) (hb:m.pts[t.2.1]=b) (hcc:m.pts[t.2.2]=c):
  Calls Tryz.prog 12 #[.agg #[vp,vt,vs],.int .i64 (j:Int)] w (Ret w (.tuple #[pV a,pV b,pV c])):=by
 have P1:=Lh (fun W=>point_raw (p:=(t.1:Int)) (m:=(m.pts.length:Int)) (by omega) (by omega) W)
 have P2:=Lh (fun W=>point_raw (p:=(t.2.1:Int)) (m:=(m.pts.length:Int)) (by omega) (by omega) W)
 have P3:=Lh (fun W=>point_raw (p:=(t.2.2:Int)) (m:=(m.pts.length:Int)) (by omega) (by omega) W)
 obtain ⟨hP,hT,hS⟩:=hM
 obtain ⟨as_,cs,rfl⟩:=hS.at
 have l1:=hP.len
 have l2:=hT.len
 have hl1:(m.pts.length:Int)≤9223372036854775807:=by simp only [maxLen]at l1;omega
 have hl2:(m.tris.length:Int)≤9223372036854775807:=by simp only [maxLen]at l2;omega
 obtain ⟨g,ct,rfl,_,_,_,hsh,hR⟩:=hT.block (by intro e;rw [e]at hlt;simp at hlt)
 obtain ⟨gp,cp,rfl,_,_,_,hshp,hRp⟩:=hP.block (by intro e;rw [e]at g1;simp at g1)
 obtain ⟨v0,v1,v2⟩:=hR.fTri hlt ht
 obtain ⟨a0,a1,a2,a3,a4,a5,a6,a7,a8,a9⟩:=hRp.fPt g1 ha
 obtain ⟨c0,c1,c2,c3,c4,c5,c6,c7,c8,c9⟩:=hRp.fPt g2 hb
 obtain ⟨d0,d1,d2,d3,d4,d5,d6,d7,d8,d9⟩:=hRp.fPt g3 hcc
 have hgl:=hsh.lt
 have hgp:=hshp.lt
 have q0:(j:Int)<(m.tris.length:Int):=by omega
 have q00:(0:Int)≤(j:Int):=by omega
 have q1:(t.1:Int)<(m.pts.length:Int):=by omega
 have q2:(t.2.1:Int)<(m.pts.length:Int):=by omega
 have q3:(t.2.2:Int)<(m.pts.length:Int):=by omega
 clear hP hT hS hR hRp hsh hshp ht ha hb hcc hlt g1 g2 g3 l1 l2
 have n1:¬gp=w.heap.size:=by omega
 have n2:¬gp=w.heap.size+1:=by omega
 have n3:¬gp=w.heap.size+1+1:=by omega
 have n30:¬gp=w.heap.size+1+1+1:=by omega
 have n4:¬g=w.heap.size:=by omega
 have n5:¬g=w.heap.size+1:=by omega
 have n6:¬g=w.heap.size+1+1:=by omega
 have n7:¬g=w.heap.size+1+1+1:=by omega
 have k3:g<w.heap.size+1:=by omega
 have k4:g<w.heap.size+1+1:=by omega
 have k5:g<w.heap.size+1+1+1:=by omega
 go_enter Tryz.func12,Tryz.ntmps12
 go_upto_region 3 with fail
 go_cut [7,8] (fun s7 s8 wx=>s7= .pointer (some ⟨w.heap.size+1+1+1+1,0,none⟩)∧s8= .int .i64 (m.pts.length:Int)∧VB wx w.heap.size [.slice (some ⟨gp,0,none⟩) m.pts.length cp,.slice (some ⟨g,0,none⟩) m.tris.length ct,.slice as_ m.sides.length cs]∧VB wx (w.heap.size+1) [zU,zS,.bool false,zU,zS,zU,zS,.bool false,zU,zS]∧VB wx (w.heap.size+1+1) [zU,zS,.bool false,zU,zS,zU,zS,.bool false,zU,zS]∧VB wx (w.heap.size+1+1+1) [zU,zS,.bool false,zU,zS,zU,zS,.bool false,zU,zS]∧VB wx (w.heap.size+1+1+1+1) [.int .i64 (t.1:Int),.int .i64 (t.2.1:Int),.int .i64 (t.2.2:Int)]∧Gr w.heap.size w wx)
 case first=>
  refine wp_region_held_drew (S:=(fun w'=>w'.cell? ⟨w.heap.size,0,none⟩=some (.slice (some ⟨gp,0,none⟩) m.pts.length cp)∧w'.cell? ⟨w.heap.size,1,none⟩=some (.slice (some ⟨g,0,none⟩) m.tris.length ct)∧w'.cell? ⟨g,j*3,none⟩=some (.int .i64 (t.1:Int))∧w'.cell? ⟨g,j*3+1,none⟩=some (.int .i64 (t.2.1:Int))∧w'.cell? ⟨g,j*3+2,none⟩=some (.int .i64 (t.2.2:Int)))) (by kernel_rfl) ?_ (fun hHeld=>?_)
  ·simp [go_sem, *]
  refine tq 0 21 (.pointer (some ⟨w.heap.size,1,none⟩)) ?_
  refine tq 1 22 (.slice (some ⟨g,0,none⟩) m.tris.length ct) ?_
  refine tq 2 23 (.int .i64 (j:Int)) ?_
  refine tq 3 24 (.pointer (some ⟨g,j*3,none⟩)) ?_
  refine tq 4 25 (.agg #[.int .i64 (t.1:Int),.int .i64 (t.2.1:Int),.int .i64 (t.2.2:Int)]) ?_
  refine tq 5 26 (.pointer (some ⟨w.heap.size,0,none⟩)) ?_
  refine tq 6 27 (.slice (some ⟨gp,0,none⟩) m.pts.length cp) ?_
  refine tq 7 28 (.int .i64 (m.pts.length:Int)) ?_
  refine rd 8 (fun K hK=>?_)
  go_simp
  refine kO hK fun hQ1=>?_
  clear hK K hHeld
  refine rd 9 (fun K hK=>?_)
  go_simp
  refine kO hK fun hQ2=>?_
  clear hK K hQ1
  refine tq 10 8 (.int .i64 (m.pts.length:Int)) ?_
  refine wpAnyH_done (by kernel_rfl) ?_ _
  go_wp2_with fail
  go_meet
  refine⟨rfl,rfl,by exact vbb,by exact vbb,by exact vbb,by exact vbb,by exact vbb,by exact gzz⟩
 case rest=>
  obtain ⟨wx,hwx⟩:∃q,q=wc:=⟨_,rfl⟩
  subst hwx
  obtain ⟨rfl,rfl,hV0,hV1,hV2,hV3,hV4,hgx⟩:=hcut
  have hszx:=hV4.lt
  rw [←hgx.cell (p:=⟨gp,t.1*10,none⟩) hgp]at a0
  rw [←hgx.cell (p:=⟨gp,t.1*10+1,none⟩) hgp]at a1
  rw [←hgx.cell (p:=⟨gp,t.1*10+2,none⟩) hgp]at a2
  rw [←hgx.cell (p:=⟨gp,t.1*10+3,none⟩) hgp]at a3
  rw [←hgx.cell (p:=⟨gp,t.1*10+4,none⟩) hgp]at a4
  rw [←hgx.cell (p:=⟨gp,t.1*10+5,none⟩) hgp]at a5
  rw [←hgx.cell (p:=⟨gp,t.1*10+6,none⟩) hgp]at a6
  rw [←hgx.cell (p:=⟨gp,t.1*10+7,none⟩) hgp]at a7
  rw [←hgx.cell (p:=⟨gp,t.1*10+8,none⟩) hgp]at a8
  rw [←hgx.cell (p:=⟨gp,t.1*10+9,none⟩) hgp]at a9
  rw [←hgx.cell (p:=⟨gp,t.2.1*10,none⟩) hgp]at c0
  rw [←hgx.cell (p:=⟨gp,t.2.1*10+1,none⟩) hgp]at c1
  rw [←hgx.cell (p:=⟨gp,t.2.1*10+2,none⟩) hgp]at c2
  rw [←hgx.cell (p:=⟨gp,t.2.1*10+3,none⟩) hgp]at c3
  rw [←hgx.cell (p:=⟨gp,t.2.1*10+4,none⟩) hgp]at c4
  rw [←hgx.cell (p:=⟨gp,t.2.1*10+5,none⟩) hgp]at c5
  rw [←hgx.cell (p:=⟨gp,t.2.1*10+6,none⟩) hgp]at c6
  rw [←hgx.cell (p:=⟨gp,t.2.1*10+7,none⟩) hgp]at c7
  rw [←hgx.cell (p:=⟨gp,t.2.1*10+8,none⟩) hgp]at c8
  rw [←hgx.cell (p:=⟨gp,t.2.1*10+9,none⟩) hgp]at c9
  rw [←hgx.cell (p:=⟨gp,t.2.2*10,none⟩) hgp]at d0
  rw [←hgx.cell (p:=⟨gp,t.2.2*10+1,none⟩) hgp]at d1
  rw [←hgx.cell (p:=⟨gp,t.2.2*10+2,none⟩) hgp]at d2
  rw [←hgx.cell (p:=⟨gp,t.2.2*10+3,none⟩) hgp]at d3
  rw [←hgx.cell (p:=⟨gp,t.2.2*10+4,none⟩) hgp]at d4
  rw [←hgx.cell (p:=⟨gp,t.2.2*10+5,none⟩) hgp]at d5
  rw [←hgx.cell (p:=⟨gp,t.2.2*10+6,none⟩) hgp]at d6
  rw [←hgx.cell (p:=⟨gp,t.2.2*10+7,none⟩) hgp]at d7
  rw [←hgx.cell (p:=⟨gp,t.2.2*10+8,none⟩) hgp]at d8
  rw [←hgx.cell (p:=⟨gp,t.2.2*10+9,none⟩) hgp]at d9
  have HV0:=Lh hV0
  have HV1:=Lh hV1
  have HV2:=Lh hV2
  have HV3:=Lh hV3
  have HV4:=Lh hV4
  have HGX:=Lh hgx
  obtain ⟨b0,b1,b2,-⟩:=HV0.out.three
  obtain ⟨e0,e1,e2,-⟩:=HV4.out.three
  clear hV0 hV1 hV2 hV3 hV4 hgx v0 v1 v2
  have hgpx:gp<wx.heap.size:=by omega
  have hb0:w.heap.size<wx.heap.size:=by omega
  have hb1:w.heap.size+1<wx.heap.size:=by omega
  have hb2:w.heap.size+1+1<wx.heap.size:=by omega
  have hb3:w.heap.size+1+1+1<wx.heap.size:=by omega
  have hb4:w.heap.size+1+1+1+1<wx.heap.size:=by omega
  go_wp2_with fail
  (refine rtt (P1.out _) fun w1 hsz1 hc1 hf1 HG1=>?_;(try simp at hsz1);have hy1_0:gp<w1.heap.size:=(by omega);have hz1_0:w.heap.size<w1.heap.size:=(by omega);have hz1_1:w.heap.size+1<w1.heap.size:=(by omega);have hz1_2:w.heap.size+1+1<w1.heap.size:=(by omega);have hz1_3:w.heap.size+1+1+1<w1.heap.size:=(by omega);have hz1_4:w.heap.size+1+1+1+1<w1.heap.size:=(by omega))
  go_wp2_with fail
  (refine rtt (P2.out _) fun w2 hsz2 hc2 hf2 HG2=>?_;(try simp at hsz2);have hy2_0:gp<w2.heap.size:=(by omega);have hz2_0:w.heap.size<w2.heap.size:=(by omega);have hz2_1:w.heap.size+1<w2.heap.size:=(by omega);have hz2_2:w.heap.size+1+1<w2.heap.size:=(by omega);have hz2_3:w.heap.size+1+1+1<w2.heap.size:=(by omega);have hz2_4:w.heap.size+1+1+1+1<w2.heap.size:=(by omega))
  go_wp2_with fail
  (refine rtt (P3.out _) fun w3 hsz3 hc3 hf3 HG3=>?_;(try simp at hsz3);have hy3_0:gp<w3.heap.size:=(by omega);have hz3_0:w.heap.size<w3.heap.size:=(by omega);have hz3_1:w.heap.size+1<w3.heap.size:=(by omega);have hz3_2:w.heap.size+1+1<w3.heap.size:=(by omega);have hz3_3:w.heap.size+1+1+1<w3.heap.size:=(by omega);have hz3_4:w.heap.size+1+1+1+1<w3.heap.size:=(by omega))
  go_upto_region 6 with fail
  replace HV1:=Lh (show VB w3 (w.heap.size+1) [zU,zS,.bool false,zU,zS,zU,zS,.bool false,zU,zS]from by exact vbc HG3 (vbc HG2 (vbc HG1 HV1.out)))
  replace HV2:=Lh (show VB w3 (w.heap.size+1+1) [zU,zS,.bool false,zU,zS,zU,zS,.bool false,zU,zS]from by exact vbc HG3 (vbc HG2 (vbc HG1 HV2.out)))
  replace HV3:=Lh (show VB w3 (w.heap.size+1+1+1) [zU,zS,.bool false,zU,zS,zU,zS,.bool false,zU,zS]from by exact vbc HG3 (vbc HG2 (vbc HG1 HV3.out)))
  refine wp_region_held_drew (S:=(fun w'=>w'.cell? ⟨w.heap.size,0,none⟩=some (.slice (some ⟨gp,0,none⟩) m.pts.length cp)∧w'.cell? ⟨w.heap.size+1+1+1+1,0,none⟩=some (.int .i64 (t.1:Int))∧w'.cell? ⟨w.heap.size+1+1+1+1,1,none⟩=some (.int .i64 (t.2.1:Int))∧w'.cell? ⟨w.heap.size+1+1+1+1,2,none⟩=some (.int .i64 (t.2.2:Int))∧w'.cell? ⟨gp,t.1*10,none⟩=some (vA a.x)∧w'.cell? ⟨gp,t.1*10+1,none⟩=some (vB a.x)∧w'.cell? ⟨gp,t.1*10+2,none⟩=some (vC a.x)∧w'.cell? ⟨gp,t.1*10+3,none⟩=some (vD a.x)∧w'.cell? ⟨gp,t.1*10+4,none⟩=some (vE a.x)∧w'.cell? ⟨gp,t.1*10+5,none⟩=some (vA a.y)∧w'.cell? ⟨gp,t.1*10+6,none⟩=some (vB a.y)∧w'.cell? ⟨gp,t.1*10+7,none⟩=some (vC a.y)∧w'.cell? ⟨gp,t.1*10+8,none⟩=some (vD a.y)∧w'.cell? ⟨gp,t.1*10+9,none⟩=some (vE a.y)∧w'.cell? ⟨gp,t.2.1*10,none⟩=some (vA b.x)∧w'.cell? ⟨gp,t.2.1*10+1,none⟩=some (vB b.x)∧w'.cell? ⟨gp,t.2.1*10+2,none⟩=some (vC b.x)∧w'.cell? ⟨gp,t.2.1*10+3,none⟩=some (vD b.x)∧w'.cell? ⟨gp,t.2.1*10+4,none⟩=some (vE b.x)∧w'.cell? ⟨gp,t.2.1*10+5,none⟩=some (vA b.y)∧w'.cell? ⟨gp,t.2.1*10+6,none⟩=some (vB b.y)∧w'.cell? ⟨gp,t.2.1*10+7,none⟩=some (vC b.y)∧w'.cell? ⟨gp,t.2.1*10+8,none⟩=some (vD b.y)∧w'.cell? ⟨gp,t.2.1*10+9,none⟩=some (vE b.y)∧w'.cell? ⟨gp,t.2.2*10,none⟩=some (vA c.x)∧w'.cell? ⟨gp,t.2.2*10+1,none⟩=some (vB c.x)∧w'.cell? ⟨gp,t.2.2*10+2,none⟩=some (vC c.x)∧w'.cell? ⟨gp,t.2.2*10+3,none⟩=some (vD c.x)∧w'.cell? ⟨gp,t.2.2*10+4,none⟩=some (vE c.x)∧w'.cell? ⟨gp,t.2.2*10+5,none⟩=some (vA c.y)∧w'.cell? ⟨gp,t.2.2*10+6,none⟩=some (vB c.y)∧w'.cell? ⟨gp,t.2.2*10+7,none⟩=some (vC c.y)∧w'.cell? ⟨gp,t.2.2*10+8,none⟩=some (vD c.y)∧w'.cell? ⟨gp,t.2.2*10+9,none⟩=some (vE c.y))) (by kernel_rfl) ?_ (fun hHeld=>?_)
  ·simp [go_sem, *]
  refine tq 0 51 (.pointer (some ⟨w.heap.size,0,none⟩)) ?_
  refine tq 1 52 (.slice (some ⟨gp,0,none⟩) m.pts.length cp) ?_
  refine tq 2 53 (.pointer (some ⟨w.heap.size+1+1+1+1,0,none⟩)) ?_
  refine tq 3 54 (.int .i64 (t.1:Int)) ?_
  refine tq 4 55 (.pointer (some ⟨gp,t.1*10,none⟩)) ?_
  refine tq 5 56 (pV a) ?_
  refine tq 6 57 (.pointer (some ⟨w.heap.size,0,none⟩)) ?_
  refine tq 7 58 (.slice (some ⟨gp,0,none⟩) m.pts.length cp) ?_
  refine tq 8 59 (.pointer (some ⟨w.heap.size+1+1+1+1,1,none⟩)) ?_
  refine tq 9 60 (.int .i64 (t.2.1:Int)) ?_
  refine tq 10 61 (.pointer (some ⟨gp,t.2.1*10,none⟩)) ?_
  refine tq 11 62 (pV b) ?_
  refine tq 12 63 (.pointer (some ⟨w.heap.size,0,none⟩)) ?_
  refine tq 13 64 (.slice (some ⟨gp,0,none⟩) m.pts.length cp) ?_
  refine tq 14 65 (.pointer (some ⟨w.heap.size+1+1+1+1,2,none⟩)) ?_
  refine tq 15 66 (.int .i64 (t.2.2:Int)) ?_
  refine tq 16 67 (.pointer (some ⟨gp,t.2.2*10,none⟩)) ?_
  refine tq 17 68 (pV c) ?_
  refine wpAnyH_ready (rs:= [18]) (by kernel_rfl) (by simp) ?_
  refine AllReadyH.cons (o:=⟨none,_,_,_,_,_⟩) rfl (fun K hK=>?_) AllReadyH.nil
  rw [if_pos (by rfl)]
  refine wp_store_mid 64 _ _ rfl (w.heap.size+1) 0 (List.toArray [vA a.x,vB a.x,vC a.x,vD a.x,vE a.x,vA a.y,vB a.y,vC a.y,vD a.y,vE a.y]) rfl rfl (VB.there (cs:= [zU,zS,.bool false,zU,zS,zU,zS,.bool false,zU,zS]) HV1.out.drew) info_Point (by first|rfl|simp [Value.oneCell']) ?_
  try simp only [pS]
  try simp only [List.toList_toArray]
  refine(show ∀wy:World,VB wy (w.heap.size+1) [vA a.x,vB a.x,vC a.x,vD a.x,vE a.x,vA a.y,vB a.y,vC a.y,vD a.y,vE a.y]→VB wy (w.heap.size+1+1) [zU,zS,.bool false,zU,zS,zU,zS,.bool false,zU,zS]→VB wy (w.heap.size+1+1+1) [zU,zS,.bool false,zU,zS,zU,zS,.bool false,zU,zS]→Gr w.heap.size w wy→(∀b o,b≠w.heap.size+1→wy.cell? ⟨b,o,none⟩=w3.drew.cell? ⟨b,o,none⟩)→K _ wy from ?_) _ (VB.set HV1.out.drew _ rfl) (VB.fars (by omega) _ _ HV2.out.drew) (VB.fars (by omega) _ _ HV3.out.drew) (Gr.sets (by omega) _ _ (by exact gcc HG3 (gcc HG2 (gcc HG1 (gcc HGX gzz))))) (fun b o hb=>cell_sets_ne hb _ _ _ _)
  intro wy1 hA1 hA2 hA3 hgs hcs
  refine hK.out _ _ ?_ (fun hQ1=>?_)
  ·have hh:=hHeld;(try dsimp only at hh ⊢);simp only [hcs (w.heap.size) _ (show w.heap.size≠w.heap.size+1 by omega),hcs (w.heap.size+1+1+1+1) _ (show w.heap.size+1+1+1+1≠w.heap.size+1 by omega),hcs gp _ (show gp≠w.heap.size+1 by omega)];exact hh
  clear hK K hHeld hcs
  have HA11:=Lh hA1
  have HA12:=Lh hA2
  have HA13:=Lh hA3
  have HGS1:=Lh hgs
  clear hA1 hA2 hA3 hgs
  refine wpAnyH_ready (rs:= [19]) (by kernel_rfl) (by simp) ?_
  refine AllReadyH.cons (o:=⟨none,_,_,_,_,_⟩) rfl (fun K hK=>?_) AllReadyH.nil
  rw [if_pos (by rfl)]
  refine wp_store_mid 64 _ _ rfl (w.heap.size+1+1) 0 (List.toArray [vA b.x,vB b.x,vC b.x,vD b.x,vE b.x,vA b.y,vB b.y,vC b.y,vD b.y,vE b.y]) rfl rfl (VB.there (cs:= [zU,zS,.bool false,zU,zS,zU,zS,.bool false,zU,zS]) HA12.out) info_Point (by first|rfl|simp [Value.oneCell']) ?_
  try simp only [pS]
  try simp only [List.toList_toArray]
  refine(show ∀wy:World,VB wy (w.heap.size+1) [vA a.x,vB a.x,vC a.x,vD a.x,vE a.x,vA a.y,vB a.y,vC a.y,vD a.y,vE a.y]→VB wy (w.heap.size+1+1) [vA b.x,vB b.x,vC b.x,vD b.x,vE b.x,vA b.y,vB b.y,vC b.y,vD b.y,vE b.y]→VB wy (w.heap.size+1+1+1) [zU,zS,.bool false,zU,zS,zU,zS,.bool false,zU,zS]→Gr w.heap.size w wy→(∀b o,b≠w.heap.size+1+1→wy.cell? ⟨b,o,none⟩=wy1.cell? ⟨b,o,none⟩)→K _ wy from ?_) _ (VB.fars (by omega) _ _ HA11.out) (VB.set HA12.out _ rfl) (VB.fars (by omega) _ _ HA13.out) (Gr.sets (by omega) _ _ HGS1.out) (fun b o hb=>cell_sets_ne hb _ _ _ _)
  intro wy2 hA1 hA2 hA3 hgs hcs
  refine hK.out _ _ ?_ (fun hQ2=>?_)
  ·have hh:=hQ1;(try dsimp only at hh ⊢);simp only [hcs (w.heap.size) _ (show w.heap.size≠w.heap.size+1+1 by omega),hcs (w.heap.size+1+1+1+1) _ (show w.heap.size+1+1+1+1≠w.heap.size+1+1 by omega),hcs gp _ (show gp≠w.heap.size+1+1 by omega)];exact hh
  clear hK K hQ1 hcs
  have HA21:=Lh hA1
  have HA22:=Lh hA2
  have HA23:=Lh hA3
  have HGS2:=Lh hgs
  clear hA1 hA2 hA3 hgs
  refine wpAnyH_ready (rs:= [20]) (by kernel_rfl) (by simp) ?_
  refine AllReadyH.cons (o:=⟨none,_,_,_,_,_⟩) rfl (fun K hK=>?_) AllReadyH.nil
  rw [if_pos (by rfl)]
  refine wp_store_mid 64 _ _ rfl (w.heap.size+1+1+1) 0 (List.toArray [vA c.x,vB c.x,vC c.x,vD c.x,vE c.x,vA c.y,vB c.y,vC c.y,vD c.y,vE c.y]) rfl rfl (VB.there (cs:= [zU,zS,.bool false,zU,zS,zU,zS,.bool false,zU,zS]) HA23.out) info_Point (by first|rfl|simp [Value.oneCell']) ?_
  try simp only [pS]
  try simp only [List.toList_toArray]
  refine(show ∀wy:World,VB wy (w.heap.size+1) [vA a.x,vB a.x,vC a.x,vD a.x,vE a.x,vA a.y,vB a.y,vC a.y,vD a.y,vE a.y]→VB wy (w.heap.size+1+1) [vA b.x,vB b.x,vC b.x,vD b.x,vE b.x,vA b.y,vB b.y,vC b.y,vD b.y,vE b.y]→VB wy (w.heap.size+1+1+1) [vA c.x,vB c.x,vC c.x,vD c.x,vE c.x,vA c.y,vB c.y,vC c.y,vD c.y,vE c.y]→Gr w.heap.size w wy→(∀b o,b≠w.heap.size+1+1+1→wy.cell? ⟨b,o,none⟩=wy2.cell? ⟨b,o,none⟩)→K _ wy from ?_) _ (VB.fars (by omega) _ _ HA21.out) (VB.fars (by omega) _ _ HA22.out) (VB.set HA23.out _ rfl) (Gr.sets (by omega) _ _ HGS2.out) (fun b o hb=>cell_sets_ne hb _ _ _ _)
  intro wy3 hA1 hA2 hA3 hgs hcs
  refine hK.out _ _ ?_ (fun hQ3=>?_)
  ·have hh:=hQ2;(try dsimp only at hh ⊢);simp only [hcs (w.heap.size) _ (show w.heap.size≠w.heap.size+1+1+1 by omega),hcs (w.heap.size+1+1+1+1) _ (show w.heap.size+1+1+1+1≠w.heap.size+1+1+1 by omega),hcs gp _ (show gp≠w.heap.size+1+1+1 by omega)];exact hh
  clear hK K hQ2 hcs
  have HA31:=Lh hA1
  have HA32:=Lh hA2
  have HA33:=Lh hA3
  have HGS3:=Lh hgs
  clear hA1 hA2 hA3 hgs
  refine wpAnyH_done (by kernel_rfl) ?_ _
  go_wp2
  refine ret_row3 (g1:=w.heap.size+1) (g2:=w.heap.size+1+1) (g3:=w.heap.size+1+1+1) Tryz.results12 rfl rfl rfl HA31.out HA32.out HA33.out Tryz.underlying64 rfl info_Point info_Point info_Point rfl ⟨rfl,HGS3.out⟩
end Go.Proofs.YtfgmdhjmgdccdaaGreat
namespace Go.Proofs.YtfgmdhjmgdccdaaGreat
open Go.RowKit
section
variable {P:Program} {ops:Array Oper} {Q:Exit→Act→World→Prop} {md:Region.Mode} {S:World→Prop} {st:Nat}
def AnyL (P:Program) (md:Region.Mode) (ops:Array Oper) (Q:Exit→Act→World→Prop) (S:World→Prop) (st:Nat):Nat→Array Bool→Act→World→Prop
 | 0,listed,a,w=>Region.ready md ops listed= []∧Q .normal a w
 | fuel+1,listed,a,w=>
  (Region.ready md ops listed= []→Q .normal a w)∧
  ∀i∈Region.ready md ops listed,wpOp P ops Q i (fun a' w'=>((listed.setIfInBounds i true).getD st false=false→S w')∧AnyL P md ops Q S st fuel (listed.setIfInBounds i true) a' w') a w
theorem AnyL.any:∀(fuel:Nat) (listed:Array Bool) (a:Act) (w:World),AnyL P md ops Q S st fuel listed a w→wpAny P md ops Q fuel listed a w
 | 0,_,_,_,h=>h
 | fuel+1,_,_,_,h=>⟨h.1,fun i hi=>wpOp_mono (fun a' w' h'=>AnyL.any fuel _ a' w' h'.2) (h.2 i hi)⟩
theorem AnyL.first {i:Nat} {oi:Oper} {v:Value} (hi:ops[i]? =some oi) (hsel:∀(j:Nat) (o:Oper) cs b,ops[j]? =some o→o.op≠ .select cs b)
  (hQ:∀c a w,Q (.panic c) (a.put oi.dst v) w→Q (.panic c) a w) (hst:∃os,ops[st]? =some os∧∃e∈os.after,Region.binds md e=true∧e.on=i):
  ∀(fuel:Nat) (listed:Array Bool) (a:Act) (w:World),
   (∀j oj,ops[j]? =some oj→j≠i→listed.getD j true=false→(∀e∈oj.after,Region.binds md e=true→e.on≠i)→oi.apart ops oj=true)→
   i∈Region.ready md ops listed→YieldsIf P ops S oi v a→listed.getD st false=false→S w→
   AnyL P md ops Q S st fuel (listed.setIfInBounds i true) (a.put oi.dst v) w→AnyL P md ops Q S st (fuel+1) listed a w:=by
 intro fuel
 have behind:∀ {listed:Array Bool},i∈Region.ready md ops listed→∀e:Edge,e.on=i→¬listed.getD e.on false=true:=by
  intro listed hr e heq h1
  have h0:=(mem_ready.1 hr).1
  rw [heq]at h1
  rcases Nat.lt_or_ge i listed.size with h'|h'
  ·simp [h']at h0 h1;rw [h0]at h1;cases h1
  ·simp [Array.getElem?_eq_none h']at h1
 induction fuel with
 | zero=>
  intro listed a w _ hr hy hls hS H
  refine⟨fun h=>(by rw [h]at hr;cases hr),fun j hj=>?_⟩
  by_cases hji:j=i
  ·subst hji;exact hy.wpOp hi hS ⟨fun _=>hS,H⟩
  ·have:=ready_mono hj hji
   rw [H.1]at this
   cases this
 | succ fuel ih=>
  intro listed a w hfree hr hy hls hS H
  refine⟨fun h=>(by rw [h]at hr;cases hr),fun j hj=>?_⟩
  by_cases hji:j=i
  ·subst hji;exact hy.wpOp hi hS ⟨fun _=>hS,H⟩
  ·have h1:=H.2 j (ready_mono hj hji)
   obtain ⟨hjun,oj,hoj,hall⟩:=mem_ready.1 hj
   have hnot:∀e∈oj.after,Region.binds md e=true→e.on≠i:=fun e he hb heq=>behind hr e heq (hall e he hb)
   have hjst:j≠st:=by
    rintro rfl
    obtain ⟨os,hos,e,he,hb,heq⟩:=hst
    rw [hos]at hoj
    cases hoj
    exact hnot e he hb heq
   have h2:=wpOp_putIf hoj (hfree j oj hoj hji hjun hnot) (fun cs b=>hsel i oi cs b hi) (fun cs b=>hsel j oj cs b hoj) hQ hy h1
   have hfree':∀k ok,ops[k]? =some ok→k≠i→(listed.setIfInBounds j true).getD k true=false→
     (∀e∈ok.after,Region.binds md e=true→e.on≠i)→oi.apart ops ok=true:=fun k ok hk hki hun hno=>by
    refine hfree k ok hk hki ?_ hno
    by_cases hjk:j=k
    ·subst hjk;exact hjun
    ·rw [getD_set_ne true hjk]at hun;exact hun
   have hls2:(listed.setIfInBounds j true).getD st false=false:=by rw [getD_set_ne false hjst];exact hls
   have hls3:((listed.setIfInBounds i true).setIfInBounds j true).getD st false=false:=by
    rw [getD_set_ne false hjst]
    by_cases his:i=st
    ·exfalso
     obtain ⟨os,hos,e,he,hb,heq⟩:=hst
     have:=(mem_ready.1 hr).2
     obtain ⟨o',ho',hall'⟩:=this
     rw [his,hos]at ho'
     cases ho'
     exact behind hr e heq (hall' e he hb)
    ·rw [getD_set_ne false his];exact hls
   refine wpOp_mono (fun a' w' h3=>⟨fun _=>h3.2.1 hls3,ih (listed.setIfInBounds j true) a' w' hfree' (ready_mono hr (Ne.symm hji)) h3.1 hls2 (h3.2.1 hls3) ?_⟩) h2
   rw [Array.setIfInBounds_comm _ _ hji]
   exact h3.2.2
end
section
variable {P:Program} {ops:Array Oper} {Q:Exit→Act→World→Prop} {md:Region.Mode} {S:World→Prop} {st fuel:Nat} {listed:Array Bool} {a:Act} {w:World} {oi:Oper}
def waits (md:Region.Mode) (ops:Array Oper) (st i:Nat):Bool:=match ops[st]? with|some o=>o.after.any fun e=>Region.binds md e && e.on == i|none=>false
theorem waits_spec {i:Nat} (h:waits md ops st i=true):∃os,ops[st]? =some os∧∃e∈os.after,Region.binds md e=true∧e.on=i:=by
 unfold waits at h
 split at h
 ·rename_i o ho
  obtain ⟨e,he,hb⟩:=Array.any_eq_true'.1 h
  simp only [Bool.and_eq_true,beq_iff_eq]at hb
  exact⟨o,ho,e,he,hb⟩
 ·cases h
theorem tkL (i:Nat) (d:Option Tmp) (v:Value) (h:AnyL P md ops Q S st fuel (listed.setIfInBounds i true) (a.put d v) w) (hi:ops[i]? =some oi:=by rfl) (hd:oi.dst=d:=by rfl) (hs:Region.noSelect ops=true:=by kernel_rfl) (hf:Region.free md ops listed i=true:=by kernel_rfl) (hr:(Region.ready md ops listed).contains i=true:=by kernel_rfl)
  (hw:waits md ops st i=true:=by kernel_rfl) (hl:listed.getD st false=false:=by kernel_rfl) (hQ:∀c a w,Q (.panic c) (a.put oi.dst v) w→Q (.panic c) a w:=by exact fun _ _ _ h=>h) (hy:YieldsIf P ops S oi v a:=by exact .inl ⟨by rfl,fun _ h=>by(try dsimp only at h);go_simp⟩) (hS:S w:=by assumption):AnyL P md ops Q S st (fuel+1) listed a w:=by
 subst hd
 exact AnyL.first hi (Region.noSelect_spec hs) hQ (waits_spec hw) fuel listed a w (Region.free_spec hi hf) (by simpa using hr) hy hl hS h
theorem rdL (i:Nat) (h:∀K':Act→World→Prop,Shut (∀a w,S w→(S w→AnyL P md ops Q S st fuel (listed.setIfInBounds i true) a w)→K' a w)→if Region.wanted oi (yielded ops a.tmps)=true then Oper.wp P oi a w K' Q else K' (a.put oi.dst undef) w)
  (hr:Region.ready md ops listed= [i]:=by kernel_rfl) (ho:ops[i]? =some oi:=by rfl):AnyL P md ops Q S st (fuel+1) listed a w:=
 ⟨fun h0=>(by rw [hr]at h0;cases h0),fun j hj=>by
  rw [hr,List.mem_singleton]at hj
  subst hj
  exact wpOp_step ho (fun K' hK=>h K' (fun a w hS hW=>hK a w ⟨fun _=>hS,hW hS⟩))⟩
theorem rdE (i:Nat) (h:∀K':Act→World→Prop,Shut (∀a w,AnyL P md ops Q S st fuel (listed.setIfInBounds i true) a w→K' a w)→if Region.wanted oi (yielded ops a.tmps)=true then Oper.wp P oi a w K' Q else K' (a.put oi.dst undef) w)
  (hl:(listed.setIfInBounds i true).getD st false=true:=by kernel_rfl) (hr:Region.ready md ops listed= [i]:=by kernel_rfl) (ho:ops[i]? =some oi:=by rfl):AnyL P md ops Q S st (fuel+1) listed a w:=
 ⟨fun h0=>(by rw [hr]at h0;cases h0),fun j hj=>by
  rw [hr,List.mem_singleton]at hj
  subst hj
  exact wpOp_step ho (fun K' hK=>h K' (fun a w hW=>hK a w ⟨fun h0=>(by rw [hl]at h0;cases h0),hW⟩))⟩
theorem AnyL.done {listed:Array Bool} {a:Act} {w:World} (hr:Region.ready md ops listed= []) (h:Q .normal a w):∀fuel,AnyL P md ops Q S st fuel listed a w
 | 0=>⟨hr,h⟩
 | _+1=>⟨fun _=>h,by rw [hr];simp⟩
theorem wp_region_L (st:Nat) {id:Nat} (hm:P.follows .mixedOrders=true) (hS:S w.drew) (h:S w.drew→AnyL P .any ops Q S st ops.size (Array.replicate ops.size false) a w.drew):(Code.region id ops true).wp P Q a w:=
 wp_region_any hm (AnyL.any _ _ _ _ (h hS))
end
end Go.Proofs.YtfgmdhjmgdccdaaGreat
