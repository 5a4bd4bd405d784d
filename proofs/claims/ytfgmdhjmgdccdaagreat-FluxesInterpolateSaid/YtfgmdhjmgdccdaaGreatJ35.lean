/-
  Part 35 of the proof: FluA FluP FluQ DofA FluR.
-/
import Derived.Test.YtfgmdhjmgdccdaaGreatJ34
import Derived.Test.YtfgmdhjmgdccdaaGreatJ32
set_option linter.unusedSimpArgs false
set_option linter.unusedVariables false
set_option maxHeartbeats 8000000
namespace Go.Proofs.YtfgmdhjmgdccdaaGreat
open Go.RowKit Gus Go.Maps
set_option maxRecDepth 20000 in
theorem thalf_raw (q h r:Rat) (w:World) (hO:∀W,Calls Tryz.prog 29 #[.int .i64 1,.int .i64 2] W (Ret W (.tuple #[fracV h,.int .i64 0]))) (hM:∀W,Calls Tryz.prog 37 #[fracV q,fracV h] W (Ret W (fracV r))):Calls Tryz.prog 49 #[fracV q] w (Ret w (fracV r)):=by
 have HO:=Lh hO
 have HM:=Lh hM
 clear hO hM
 go_enter Tryz.func49,Tryz.ntmps49
 go_wp2_with fail
 (refine rtt (HO.out _) fun w1 hsz1 hc1 hf1 HG1=>?_;(try simp at hsz1);have hz1_0:w.heap.size<w1.heap.size:=(by omega);have hz1_1:w.heap.size+1<w1.heap.size:=(by omega))
 go_wp2_with fail
 (refine(HM.out _).mono ?_;rintro e w2 ⟨rfl,hg2⟩;(try (with_reducible replace hg2:=Gr.of_drew hg2));have hsz2:=hg2.size;(try simp at hsz2);have hz2_0:w.heap.size<w2.heap.size:=(by omega);have hz2_1:w.heap.size+1<w2.heap.size:=(by omega);obtain ⟨hc2,hf2⟩:=hg2.cells;have HG2:=Lh hg2;clear hg2)
 go_wp2
 refine ret_row (g:=w.heap.size+1) Tryz.results49 rfl (VB.set (cs:= [zU,zS,.bool false,zU,zS]) ?_ [vA r,vB r,vC r,vD r,vE r] rfl) Tryz.underlying59 rfl info_Frac rfl ⟨rfl,?_⟩
 ·exact vbc HG2 (vbc HG1 vbb)
 ·exact gcc HG2 (gcc HG1 gzz)
set_option maxRecDepth 20000 in
theorem Area_raw (a b c:Pt) (q r:Rat) (w:World) (hT:∀W,Calls Tryz.prog 50 #[pV a,pV b,pV c] W (Ret W (fracV q))) (hH:∀W,Calls Tryz.prog 49 #[fracV q] W (Ret W (fracV r))):Calls Tryz.prog 18 #[pV a,pV b,pV c] w (Ret w (fracV r)):=by
 have HT:=Lh hT
 have HH:=Lh hH
 clear hT hH
 go_enter Tryz.func18,Tryz.ntmps18
 go_wp2_with fail
 (refine rtu (HT.out _) fun w1 hsz1 hl1 hc1 hf1 HG1=>?_;(try simp at hsz1))
 go_wp2_with fail
 (refine rtu (HH.out _) fun w2 hsz2 hl2 hc2 hf2 HG2=>?_;(try simp at hsz2))
 go_wp2
 refine ret_row (g:=w.heap.size+1+1+1) Tryz.results18 rfl (VB.set (cs:= [zU,zS,.bool false,zU,zS]) ?_ [vA r,vB r,vC r,vD r,vE r] rfl) Tryz.underlying59 rfl info_Frac rfl ⟨rfl,?_⟩
 ·exact vbc HG2 (vbc HG1 vbb)
 ·exact gcc HG2 (gcc HG1 gzz)
def areaP (a b c:Pt):Rat:=twice a b c*(1 / 2)
theorem tr_Area (a b c:Pt) (w:World) (ha:hp a≤100000∧hp b≤100000∧hp c≤100000):Calls Tryz.prog 18 #[pV a,pV b,pV c] w (Ret w (fracV (areaP a b c))):=by
 have h1:=hw_twice a b c
 have h2:hw (1 / 2:Rat)≤10:=by decide+kernel
 have h12:(1 / 2:Rat)=((1:Int):Rat) / ((2:Int):Rat):=by decide+kernel
 refine Area_raw a b c _ _ w (fun W=>tr_twice a b c W (by omega) (by omega) (by omega)) (fun W=>thalf_raw _ (1 / 2) _ W (fun W=>?_) (fun W=>fr_Mul _ _ W (by omega) (by omega)))
 have h:=fr_Of 1 2 W (by omega) (by omega) (by omega) (by omega) (by omega)
 rw [←h12]at h
 exact h
theorem ret_cc {w:World} {g1 g2:Nat} {c1 c2:List Value} {P:Program} {fn:Func} {R:Ending→World→Prop} {a:Act} {s1 s2:Nat} {t1 t2:TypeId} {d1 d2:TypeDesc} (hf:fn.results= #[.cell s1 t1,.cell s2 t2])
  (h1:a.tmps[s1]?.getD undef= .pointer (some ⟨g1,0,none⟩)) (h2:a.tmps[s2]?.getD undef= .pointer (some ⟨g2,0,none⟩))
  (v1:VB w g1 c1) (v2:VB w g2 c2) (hu1:P.underlying t1=some d1) (hu2:P.underlying t2=some d2) (hd1:d1.isRow=true) (hd2:d2.isRow=true) (i1:(P.info? t1).map (·.size)=some c1.length) (i2:(P.info? t2).map (·.size)=some c2.length) (hD:a.defers= []) (hR:R (.returned (.tuple #[.agg c1.toArray,.agg c2.toArray])) w):bodyPost P fn R .ret a w:=by
 refine bodyPost_ret (v:= .tuple #[.agg c1.toArray,.agg c2.toArray]) ?_ hD hR
 have l1:=run_loadVar_mid (P:=P) w g1 0 t1 c1 d1 v1.range hu1 hd1 i1
 have l2:=run_loadVar_mid (P:=P) w g2 0 t2 c2 d2 v2.range hu2 hd2 i2
 simp only [results,hf,List.mapM_toArray,List.mapM_cons,List.mapM_nil,Array.getD_eq_getD_getElem?,h1,h2,asAddr,Sem.run_bind,Functor.map]
 simp only [Sem.run_bind',Sem.run_bind,Sem.run_pure,Result.andThen_ok,l1,l2,pure_bind,Function.comp]
 rfl
set_option maxRecDepth 20000 in
theorem fcorners_raw (a b c:Pt) (q:Rat) (j:Nat) (vp vt vs:Value) (w:World) (hC:∀W,Gr w.heap.size w W→Calls Tryz.prog 12 #[.agg #[vp,vt,vs],.int .i64 (j:Int)] W (Ret W (.tuple #[pV a,pV b,pV c]))) (hA:∀W,Calls Tryz.prog 18 #[pV a,pV b,pV c] W (Ret W (fracV q))):
  Calls Tryz.prog 113 #[.agg #[vp,vt,vs],.int .i64 (j:Int)] w (Ret w (.tuple #[.agg #[vA a.x,vB a.x,vC a.x,vD a.x,vE a.x,vA a.y,vB a.y,vC a.y,vD a.y,vE a.y,vA b.x,vB b.x,vC b.x,vD b.x,vE b.x,vA b.y,vB b.y,vC b.y,vD b.y,vE b.y,vA c.x,vB c.x,vC c.x,vD c.x,vE c.x,vA c.y,vB c.y,vC c.y,vD c.y,vE c.y],fracV q])):=by
 have HC:=Lh hC
 have HA:=Lh hA
 clear hC hA
 go_enter Tryz.func113,Tryz.ntmps113
 go_wp2_with fail
 (refine rtu (HC.out _ (by exact gzz)) fun w1 hsz1 hl1 hc1 hf1 HG1=>?_;(try simp at hsz1))
 go_upto_region 2 with fail
 have HV0:=Lh (show VB (((w1.alloc (.cells #[vA a.x,vB a.x,vC a.x,vD a.x,vE a.x,vA a.y,vB a.y,vC a.y,vD a.y,vE a.y] 64)).alloc (.cells #[vA b.x,vB b.x,vC b.x,vD b.x,vE b.x,vA b.y,vB b.y,vC b.y,vD b.y,vE b.y] 64)).alloc (.cells #[vA c.x,vB c.x,vC c.x,vD c.x,vE c.x,vA c.y,vB c.y,vC c.y,vD c.y,vE c.y] 64)) (w1.heap.size) [vA a.x,vB a.x,vC a.x,vD a.x,vE a.x,vA a.y,vB a.y,vC a.y,vD a.y,vE a.y]from by exact vbb)
 have HV1:=Lh (show VB (((w1.alloc (.cells #[vA a.x,vB a.x,vC a.x,vD a.x,vE a.x,vA a.y,vB a.y,vC a.y,vD a.y,vE a.y] 64)).alloc (.cells #[vA b.x,vB b.x,vC b.x,vD b.x,vE b.x,vA b.y,vB b.y,vC b.y,vD b.y,vE b.y] 64)).alloc (.cells #[vA c.x,vB c.x,vC c.x,vD c.x,vE c.x,vA c.y,vB c.y,vC c.y,vD c.y,vE c.y] 64)) (w1.heap.size+1) [vA b.x,vB b.x,vC b.x,vD b.x,vE b.x,vA b.y,vB b.y,vC b.y,vD b.y,vE b.y]from by exact vbb)
 have HV2:=Lh (show VB (((w1.alloc (.cells #[vA a.x,vB a.x,vC a.x,vD a.x,vE a.x,vA a.y,vB a.y,vC a.y,vD a.y,vE a.y] 64)).alloc (.cells #[vA b.x,vB b.x,vC b.x,vD b.x,vE b.x,vA b.y,vB b.y,vC b.y,vD b.y,vE b.y] 64)).alloc (.cells #[vA c.x,vB c.x,vC c.x,vD c.x,vE c.x,vA c.y,vB c.y,vC c.y,vD c.y,vE c.y] 64)) (w1.heap.size+1+1) [vA c.x,vB c.x,vC c.x,vD c.x,vE c.x,vA c.y,vB c.y,vC c.y,vD c.y,vE c.y]from by exact vbb)
 have HV3:=Lh (show VB (((w1.alloc (.cells #[vA a.x,vB a.x,vC a.x,vD a.x,vE a.x,vA a.y,vB a.y,vC a.y,vD a.y,vE a.y] 64)).alloc (.cells #[vA b.x,vB b.x,vC b.x,vD b.x,vE b.x,vA b.y,vB b.y,vC b.y,vD b.y,vE b.y] 64)).alloc (.cells #[vA c.x,vB c.x,vC c.x,vD c.x,vE c.x,vA c.y,vB c.y,vC c.y,vD c.y,vE c.y] 64)) (w.heap.size+1) [zU,zS,.bool false,zU,zS,zU,zS,.bool false,zU,zS,zU,zS,.bool false,zU,zS,zU,zS,.bool false,zU,zS,zU,zS,.bool false,zU,zS,zU,zS,.bool false,zU,zS]from by exact vbc HG1 vbb)
 have HV4:=Lh (show VB (((w1.alloc (.cells #[vA a.x,vB a.x,vC a.x,vD a.x,vE a.x,vA a.y,vB a.y,vC a.y,vD a.y,vE a.y] 64)).alloc (.cells #[vA b.x,vB b.x,vC b.x,vD b.x,vE b.x,vA b.y,vB b.y,vC b.y,vD b.y,vE b.y] 64)).alloc (.cells #[vA c.x,vB c.x,vC c.x,vD c.x,vE c.x,vA c.y,vB c.y,vC c.y,vD c.y,vE c.y] 64)) (w.heap.size+1+1) [zU,zS,.bool false,zU,zS]from by exact vbc HG1 vbb)
 have HGW:=Lh (show Gr w.heap.size w (((w1.alloc (.cells #[vA a.x,vB a.x,vC a.x,vD a.x,vE a.x,vA a.y,vB a.y,vC a.y,vD a.y,vE a.y] 64)).alloc (.cells #[vA b.x,vB b.x,vC b.x,vD b.x,vE b.x,vA b.y,vB b.y,vC b.y,vD b.y,vE b.y] 64)).alloc (.cells #[vA c.x,vB c.x,vC c.x,vD c.x,vE c.x,vA c.y,vB c.y,vC c.y,vD c.y,vE c.y] 64))from by exact gcc HG1 gzz)
 have hz9:(((w1.alloc (.cells #[vA a.x,vB a.x,vC a.x,vD a.x,vE a.x,vA a.y,vB a.y,vC a.y,vD a.y,vE a.y] 64)).alloc (.cells #[vA b.x,vB b.x,vC b.x,vD b.x,vE b.x,vA b.y,vB b.y,vC b.y,vD b.y,vE b.y] 64)).alloc (.cells #[vA c.x,vB c.x,vC c.x,vD c.x,vE c.x,vA c.y,vB c.y,vC c.y,vD c.y,vE c.y] 64)).heap.size=w1.heap.size+1+1+1:=by simp
 have hb9:w.heap.size+1+1<w1.heap.size:=by omega
 generalize (((w1.alloc (.cells #[vA a.x,vB a.x,vC a.x,vD a.x,vE a.x,vA a.y,vB a.y,vC a.y,vD a.y,vE a.y] 64)).alloc (.cells #[vA b.x,vB b.x,vC b.x,vD b.x,vE b.x,vA b.y,vB b.y,vC b.y,vD b.y,vE b.y] 64)).alloc (.cells #[vA c.x,vB c.x,vC c.x,vD c.x,vE c.x,vA c.y,vB c.y,vC c.y,vD c.y,vE c.y] 64))=wx at *
 generalize w1.heap.size=b1 at *
 obtain ⟨b2,hb2⟩:∃q,b1+1=q:=⟨_,rfl⟩
 rw [hb2]at HV1 HV2 ⊢
 obtain ⟨b3,hb3⟩:∃q,b2+1=q:=⟨_,rfl⟩
 rw [hb3]at HV2 ⊢
 clear HG1 HC
 obtain ⟨a_0,a_1,a_2,a_3,a_4,a_5,a_6,a_7,a_8,a_9⟩:=HV0.out.ten
 obtain ⟨b_0,b_1,b_2,b_3,b_4,b_5,b_6,b_7,b_8,b_9⟩:=HV1.out.ten
 obtain ⟨c_0,c_1,c_2,c_3,c_4,c_5,c_6,c_7,c_8,c_9⟩:=HV2.out.ten
 have hx1:b1<wx.heap.size:=by omega
 have hx2:b2<wx.heap.size:=by omega
 have hx3:b3<wx.heap.size:=by omega
 have hl12:b1<b2:=by omega
 have hl23:b2<b3:=by omega
 clear hz9 hb2 hb3
 refine wp_region_held_drew (S:=(fun w'=>w'.cell? ⟨b1,0,none⟩=some (vA a.x)∧w'.cell? ⟨b1,1,none⟩=some (vB a.x)∧w'.cell? ⟨b1,2,none⟩=some (vC a.x)∧w'.cell? ⟨b1,3,none⟩=some (vD a.x)∧w'.cell? ⟨b1,4,none⟩=some (vE a.x)∧w'.cell? ⟨b1,5,none⟩=some (vA a.y)∧w'.cell? ⟨b1,6,none⟩=some (vB a.y)∧w'.cell? ⟨b1,7,none⟩=some (vC a.y)∧w'.cell? ⟨b1,8,none⟩=some (vD a.y)∧w'.cell? ⟨b1,9,none⟩=some (vE a.y)∧w'.cell? ⟨b2,0,none⟩=some (vA b.x)∧w'.cell? ⟨b2,1,none⟩=some (vB b.x)∧w'.cell? ⟨b2,2,none⟩=some (vC b.x)∧w'.cell? ⟨b2,3,none⟩=some (vD b.x)∧w'.cell? ⟨b2,4,none⟩=some (vE b.x)∧w'.cell? ⟨b2,5,none⟩=some (vA b.y)∧w'.cell? ⟨b2,6,none⟩=some (vB b.y)∧w'.cell? ⟨b2,7,none⟩=some (vC b.y)∧w'.cell? ⟨b2,8,none⟩=some (vD b.y)∧w'.cell? ⟨b2,9,none⟩=some (vE b.y)∧w'.cell? ⟨b3,0,none⟩=some (vA c.x)∧w'.cell? ⟨b3,1,none⟩=some (vB c.x)∧w'.cell? ⟨b3,2,none⟩=some (vC c.x)∧w'.cell? ⟨b3,3,none⟩=some (vD c.x)∧w'.cell? ⟨b3,4,none⟩=some (vE c.x)∧w'.cell? ⟨b3,5,none⟩=some (vA c.y)∧w'.cell? ⟨b3,6,none⟩=some (vB c.y)∧w'.cell? ⟨b3,7,none⟩=some (vC c.y)∧w'.cell? ⟨b3,8,none⟩=some (vD c.y)∧w'.cell? ⟨b3,9,none⟩=some (vE c.y))) (by kernel_rfl) ?_ (fun hHeld=>?_)
 ·simp [go_sem, *]
 refine tq 0 16 (pV a) ?_
 refine tq 1 17 (pV b) ?_
 refine tq 2 18 (pV c) ?_
 refine tq 3 19 (.agg #[vA a.x,vB a.x,vC a.x,vD a.x,vE a.x,vA a.y,vB a.y,vC a.y,vD a.y,vE a.y,vA b.x,vB b.x,vC b.x,vD b.x,vE b.x,vA b.y,vB b.y,vC b.y,vD b.y,vE b.y,vA c.x,vB c.x,vC c.x,vD c.x,vE c.x,vA c.y,vB c.y,vC c.y,vD c.y,vE c.y]) ?_
 refine tq 4 20 (pV a) ?_
 refine tq 5 21 (pV b) ?_
 refine tq 6 22 (pV c) ?_
 refine rd 7 (fun K hK=>?_)
 go_simp
 (refine rtu (HA.out _) fun w2 hsz2 hl2 hc2 hf2 HG2=>?_;(try simp at hsz2))
 refine kO hK fun hQ1=>?_
 clear hK K hHeld
 have HW3:=Lh (show VB w2 (w.heap.size+1) [zU,zS,.bool false,zU,zS,zU,zS,.bool false,zU,zS,zU,zS,.bool false,zU,zS,zU,zS,.bool false,zU,zS,zU,zS,.bool false,zU,zS,zU,zS,.bool false,zU,zS]from by exact vbc HG2 HV3.out)
 have HW4:=Lh (show VB w2 (w.heap.size+1+1) [zU,zS,.bool false,zU,zS]from by exact vbc HG2 HV4.out)
 have HGZ:=Lh (show Gr w.heap.size w w2 from by exact gcc HG2 (gcc HGW gzz))
 clear hc2 hf2
 refine wpAnyH_ready (rs:= [8]) (by kernel_rfl) (by simp) ?_
 refine AllReadyH.cons (o:=⟨none,_,_,_,_,_⟩) rfl (fun K hK=>?_) AllReadyH.nil
 rw [if_pos (by rfl)]
 refine wp_store_mid 197 _ _ rfl (w.heap.size+1) 0 (List.toArray [vA a.x,vB a.x,vC a.x,vD a.x,vE a.x,vA a.y,vB a.y,vC a.y,vD a.y,vE a.y,vA b.x,vB b.x,vC b.x,vD b.x,vE b.x,vA b.y,vB b.y,vC b.y,vD b.y,vE b.y,vA c.x,vB c.x,vC c.x,vD c.x,vE c.x,vA c.y,vB c.y,vC c.y,vD c.y,vE c.y]) rfl rfl (VB.there (cs:= [zU,zS,.bool false,zU,zS,zU,zS,.bool false,zU,zS,zU,zS,.bool false,zU,zS,zU,zS,.bool false,zU,zS,zU,zS,.bool false,zU,zS,zU,zS,.bool false,zU,zS]) HW3.out) info_P3 (by first|rfl|simp [Value.oneCell']) ?_
 try simp only [pS]
 try simp only [List.toList_toArray]
 refine(show ∀wy:World,VB wy (w.heap.size+1) [vA a.x,vB a.x,vC a.x,vD a.x,vE a.x,vA a.y,vB a.y,vC a.y,vD a.y,vE a.y,vA b.x,vB b.x,vC b.x,vD b.x,vE b.x,vA b.y,vB b.y,vC b.y,vD b.y,vE b.y,vA c.x,vB c.x,vC c.x,vD c.x,vE c.x,vA c.y,vB c.y,vC c.y,vD c.y,vE c.y]→VB wy (w.heap.size+1+1) [zU,zS,.bool false,zU,zS]→Gr w.heap.size w wy→(∀b o,b≠w.heap.size+1→wy.cell? ⟨b,o,none⟩=w2.cell? ⟨b,o,none⟩)→K _ wy from ?_) _ (VB.set HW3.out _ rfl) (VB.fars (by omega) _ _ HW4.out) (Gr.sets (by omega) _ _ HGZ.out) (fun b o hb=>cell_sets_ne hb _ _ _ _)
 intro wy1 hT0 hT1 hgs hcs
 refine hK.out _ _ ?_ (fun hZ1=>?_)
 ·have hh:=hQ1;(try dsimp only at hh ⊢);simp only [hcs (b1) _ (show b1≠w.heap.size+1 by omega),hcs (b2) _ (show b2≠w.heap.size+1 by omega),hcs (b3) _ (show b3≠w.heap.size+1 by omega)];exact hh
 clear hK K hQ1 hcs
 have HT1_0:=Lh hT0
 have HT1_1:=Lh hT1
 have HGS1:=Lh hgs
 clear hT0 hT1 hgs
 refine wpAnyH_ready (rs:= [9]) (by kernel_rfl) (by simp) ?_
 refine AllReadyH.cons (o:=⟨none,_,_,_,_,_⟩) rfl (fun K hK=>?_) AllReadyH.nil
 rw [if_pos (by rfl)]
 refine wp_store_mid 59 _ _ rfl (w.heap.size+1+1) 0 (List.toArray [vA q,vB q,vC q,vD q,vE q]) rfl rfl (VB.there (cs:= [zU,zS,.bool false,zU,zS]) HT1_1.out) info_Frac (by first|rfl|simp [Value.oneCell']) ?_
 try simp only [pS]
 try simp only [List.toList_toArray]
 refine(show ∀wy:World,VB wy (w.heap.size+1) [vA a.x,vB a.x,vC a.x,vD a.x,vE a.x,vA a.y,vB a.y,vC a.y,vD a.y,vE a.y,vA b.x,vB b.x,vC b.x,vD b.x,vE b.x,vA b.y,vB b.y,vC b.y,vD b.y,vE b.y,vA c.x,vB c.x,vC c.x,vD c.x,vE c.x,vA c.y,vB c.y,vC c.y,vD c.y,vE c.y]→VB wy (w.heap.size+1+1) [vA q,vB q,vC q,vD q,vE q]→Gr w.heap.size w wy→(∀b o,b≠w.heap.size+1+1→wy.cell? ⟨b,o,none⟩=wy1.cell? ⟨b,o,none⟩)→K _ wy from ?_) _ (VB.fars (by omega) _ _ HT1_0.out) (VB.set HT1_1.out _ rfl) (Gr.sets (by omega) _ _ HGS1.out) (fun b o hb=>cell_sets_ne hb _ _ _ _)
 intro wy2 hT0 hT1 hgs hcs
 refine hK.out _ _ ?_ (fun hZ2=>?_)
 ·have hh:=hZ1;(try dsimp only at hh ⊢);simp only [hcs (b1) _ (show b1≠w.heap.size+1+1 by omega),hcs (b2) _ (show b2≠w.heap.size+1+1 by omega),hcs (b3) _ (show b3≠w.heap.size+1+1 by omega)];exact hh
 clear hK K hZ1 hcs
 have HT2_0:=Lh hT0
 have HT2_1:=Lh hT1
 have HGS2:=Lh hgs
 clear hT0 hT1 hgs
 refine wpAnyH_done (by kernel_rfl) ?_ _
 go_wp2
 exact ret_cc Tryz.results113 rfl rfl HT2_0.out HT2_1.out Tryz.underlying197 Tryz.underlying59 rfl rfl info_P3 info_Frac rfl ⟨rfl,HGS2.out⟩
end Go.Proofs.YtfgmdhjmgdccdaaGreat
namespace Go.Proofs.YtfgmdhjmgdccdaaGreat
open Go.RowKit Gus Go.Maps
def wt (f:Nat→Nat→Rat):List T→Rat
 | []=>0
 | t :: r=>t.c*f t.i t.j+wt f r
theorem wt_append (f:Nat→Nat→Rat):∀l m:List T,wt f (l++m)=wt f l+wt f m
 | [],m=>by show wt f m=0+wt f m;grind
 | t :: r,m=>by
  show t.c*f t.i t.j+wt f (r++m)=t.c*f t.i t.j+wt f r+wt f m
  rw [wt_append f r m]
  grind
theorem wt_perm (f:Nat→Nat→Rat) {l m:List T} (h:l.Perm m):wt f l=wt f m:=by
 induction h with
 | nil=>rfl
 | cons x _ ih=>show x.c*_+_=x.c*_+_;rw [ih]
 | swap x y l=>show y.c*_+(x.c*_+_)=x.c*_+(y.c*_+_);grind
 | trans _ _ h1 h2=>rw [h1,h2]
theorem wt_addT (f:Nat→Nat→Rat) (t:T):∀l:List T,wt f (addT l t)=wt f l+t.c*f t.i t.j
 | []=>by show(0+t.c)*f t.i t.j+0=0+t.c*f t.i t.j;grind
 | h :: r=>by
  unfold addT
  split
  ·rename_i e
   show(h.c+t.c)*f h.i h.j+wt f r=h.c*f h.i h.j+wt f r+t.c*f t.i t.j
   rw [e.1,e.2]
   grind
  ·show h.c*f h.i h.j+wt f (addT r t)=_
   rw [wt_addT f t r]
   show _=h.c*f h.i h.j+wt f r+t.c*f t.i t.j
   grind
theorem wt_fold (f:Nat→Nat→Rat):∀(l acc:List T),wt f (l.foldl addT acc)=wt f acc+wt f l
 | [],acc=>by show wt f acc=wt f acc+0;grind
 | t :: r,acc=>by
  show wt f (r.foldl addT (addT acc t))=_
  rw [wt_fold f r,wt_addT]
  show _=wt f acc+(t.c*f t.i t.j+wt f r)
  grind
theorem wt_kept (f:Nat→Nat→Rat):∀l:List T,wt f (kept l)=wt f l
 | []=>rfl
 | t :: r=>by
  unfold kept
  rw [List.filter_cons]
  have ih:wt f (r.filter fun t=> !decide (t.c=0))=wt f r:=wt_kept f r
  split
  ·show t.c*f t.i t.j+wt f (r.filter _)=t.c*f t.i t.j+wt f r
   rw [ih]
  ·rename_i h
   have h0:t.c=0:=by simpa using h
   rw [ih]
   show wt f r=t.c*f t.i t.j+wt f r
   rw [h0]
   grind
theorem wt_gat (f:Nat→Nat→Rat) (l:List T):wt f (gat l)=wt f l:=by
 unfold gat
 rw [wt_perm f (sortT_perm _),wt_kept]
 unfold gather
 rw [wt_fold]
 show 0+wt f l=wt f l
 grind
theorem wt_map_scale (f:Nat→Nat→Rat) (k:Rat):∀l:List T,wt f (l.map (T.scale k))=k*wt f l
 | []=>by show(0:Rat)=k*0;grind
 | t :: r=>by
  show k*t.c*f t.i t.j+wt f (r.map (T.scale k))=k*(t.c*f t.i t.j+wt f r)
  rw [wt_map_scale f k r]
  grind
theorem wt_scaleL (f:Nat→Nat→Rat) (k:Rat) (l:List T):wt f (scaleL k l)=k*wt f l:=by
 unfold scaleL
 rw [wt_gat,wt_map_scale,wt_gat]
theorem wt_addL (f:Nat→Nat→Rat) (a b:List T):wt f (addL a b)=wt f a+wt f b:=by
 unfold addL
 rw [wt_gat,wt_append,wt_gat,wt_gat]
theorem wt_negL (f:Nat→Nat→Rat) (l:List T):wt f (negL l)= - wt f l:=by
 unfold negL
 rw [wt_gat,wt_map_scale,wt_gat]
 show((-1:Int):Rat)*wt f l= - wt f l
 have:((-1:Int):Rat)= -1:=by rfl
 rw [this]
 grind
theorem wt_subL (f:Nat→Nat→Rat) (a b:List T):wt f (subL a b)=wt f a - wt f b:=by
 unfold subL
 rw [wt_addL,wt_negL]
 grind
theorem wt_constT (f:Nat→Nat→Rat) (c:Rat):wt f (constT c)=c*f 0 0:=by
 unfold constT
 split
 ·rename_i h
  rw [h]
  show(0:Rat)=0*f 0 0
  grind
 ·show c*f 0 0+0=_
  grind
theorem wt_xL (f:Nat→Nat→Rat):wt f xL=f 1 0:=by
 show((1:Int):Rat)*f 1 0+0=f 1 0
 have:((1:Int):Rat)=1:=rfl
 rw [this];grind
theorem wt_yL (f:Nat→Nat→Rat):wt f yL=f 0 1:=by
 show((1:Int):Rat)*f 0 1+0=f 0 1
 have:((1:Int):Rat)=1:=rfl
 rw [this];grind
theorem wt_map_mul (f:Nat→Nat→Rat) (s:T):∀y:List T,wt f (y.map (mulT s))=s.c*wt (fun p q=>f (s.i+p) (s.j+q)) y
 | []=>by show(0:Rat)=s.c*0;grind
 | t :: r=>by
  show s.c*t.c*f (s.i+t.i) (s.j+t.j)+wt f (r.map (mulT s))=s.c*(t.c*f (s.i+t.i) (s.j+t.j)+wt _ r)
  rw [wt_map_mul f s r]
  grind
theorem wt_prods (f:Nat→Nat→Rat) (y:List T):∀x:List T,wt f (prods x y)=wt (fun i j=>wt (fun p q=>f (i+p) (j+q)) y) x
 | []=>rfl
 | s :: r=>by
  have e:prods (s :: r) y=y.map (mulT s)++prods r y:=rfl
  rw [e,wt_append,wt_map_mul,wt_prods f y r]
  rfl
theorem wt_mulL (f:Nat→Nat→Rat) (a b:List T):wt f (mulL a b)=wt (fun i j=>wt (fun p q=>f (i+p) (j+q)) b) a:=by
 unfold mulL
 rw [wt_gat,wt_prods,wt_gat]
 congr 1
 funext i j
 rw [wt_gat]
theorem wt_pow0 (f:Nat→Nat→Rat) (x:List T):wt f (powL x 0)=f 0 0:=by
 show wt f (constT 1)=_
 rw [wt_constT]
 grind
theorem wt_pow1 (f:Nat→Nat→Rat) (x:List T):wt f (powL x 1)=wt f x:=by
 show wt f (mulL (constT 1) x)=_
 rw [wt_mulL,wt_constT]
 simp only [Nat.zero_add]
 grind
theorem wt_linL (f:Nat→Nat→Rat) (a b c:Rat):wt f (linL a b c)=a*f 1 0+b*f 0 1+c*f 0 0:=by
 unfold linL
 rw [wt_gat]
 show a*f 1 0+(b*f 0 1+(c*f 0 0+0))=_
 grind
theorem wt_shift (f:Nat→Nat→Rat) (x y:List T):∀l:List T,wt f (shiftA x y l)=wt (fun i j=>wt f (mulL (powL x i) (powL y j))) l:=by
 have key:∀(l acc:List T),wt f (l.foldl (fun acc t=>addL acc (scaleL t.c (mulL (powL x t.i) (powL y t.j)))) acc)=wt f acc+wt (fun i j=>wt f (mulL (powL x i) (powL y j))) l:=by
  intro l
  induction l with
  | nil=>intro acc;show wt f acc=wt f acc+0;grind
  | cons t r ih=>
   intro acc
   rw [List.foldl_cons,ih,wt_addL,wt_scaleL]
   show _=wt f acc+(t.c*wt f (mulL (powL x t.i) (powL y t.j))+wt _ r)
   grind
 intro l
 show wt f (l.foldl _ [])=_
 rw [key]
 show 0+_=_
 grind
theorem sumV_wt (l:List T):sumV l=wt (fun i _=>psi i) l:=by
 have key:∀(l:List T) (a:Rat),l.foldl (fun acc t=>acc+t.c*psi t.i) a=a+wt (fun i _=>psi i) l:=by
  intro l
  induction l with
  | nil=>intro a;show a=a+0;grind
  | cons t r ih=>
   intro a
   rw [List.foldl_cons,ih]
   show _=a+(t.c*psi t.i+wt _ r)
   grind
 unfold sumV
 rw [key]
 grind
theorem psi_0:psi 0=1:=by decide+kernel
theorem psi_1:psi 1=1 / 2:=by decide+kernel
def sg (a0 a1 u0 u1:Rat) (i j:Nat):Rat:=wt (fun i _=>psi i) (mulL (powL (linL u0 0 a0) i) (powL (linL u1 0 a1) j))
theorem seg_wt (p:List T) (a0 a1 u0 u1:Rat):sumV (shiftL p u0 0 a0 u1 0 a1)=wt (sg a0 a1 u0 u1) p:=by
 unfold shiftL
 rw [sumV_wt,wt_shift,wt_gat]
 rfl
theorem sg_00 (a0 a1 u0 u1:Rat):sg a0 a1 u0 u1 0 0=1:=by
 unfold sg
 rw [wt_mulL,wt_pow0,wt_pow0]
 exact psi_0
theorem sg_10 (a0 a1 u0 u1:Rat):sg a0 a1 u0 u1 1 0=u0*(1 / 2)+a0:=by
 unfold sg
 rw [wt_mulL,wt_pow1,wt_linL]
 simp only [wt_pow0,Nat.add_zero,psi_0,psi_1]
 grind
theorem sg_01 (a0 a1 u0 u1:Rat):sg a0 a1 u0 u1 0 1=u1*(1 / 2)+a1:=by
 unfold sg
 rw [wt_mulL,wt_pow0,wt_pow1,wt_linL]
 simp only [Nat.zero_add,psi_0,psi_1]
 grind
end Go.Proofs.YtfgmdhjmgdccdaaGreat
namespace Go.Proofs.YtfgmdhjmgdccdaaGreat
open Go.RowKit Gus Go.Maps
def baseX (p:Pt) (b:Rat):List T:=scaleL b (subL xL (constT p.x))
def baseY (p:Pt) (b:Rat):List T:=scaleL b (subL yL (constT p.y))
def fieldX (b o0 o1 o2:Rat) (p0 p1 p2:Pt):List T:=addL (addL (addL [] (scaleL o0 (baseX p0 b))) (scaleL o1 (baseX p1 b))) (scaleL o2 (baseX p2 b))
def fieldY (b o0 o1 o2:Rat) (p0 p1 p2:Pt):List T:=addL (addL (addL [] (scaleL o0 (baseY p0 b))) (scaleL o1 (baseY p1 b))) (scaleL o2 (baseY p2 b))
theorem wt_nil (f:Nat→Nat→Rat):wt f []=0:=rfl
theorem wt_baseX (f:Nat→Nat→Rat) (p:Pt) (b:Rat):wt f (baseX p b)=b*(f 1 0 - p.x*f 0 0):=by
 unfold baseX
 rw [wt_scaleL,wt_subL,wt_xL,wt_constT]
theorem wt_baseY (f:Nat→Nat→Rat) (p:Pt) (b:Rat):wt f (baseY p b)=b*(f 0 1 - p.y*f 0 0):=by
 unfold baseY
 rw [wt_scaleL,wt_subL,wt_yL,wt_constT]
theorem wt_fieldX (f:Nat→Nat→Rat) (b o0 o1 o2:Rat) (p0 p1 p2:Pt):wt f (fieldX b o0 o1 o2 p0 p1 p2)=o0*(b*(f 1 0 - p0.x*f 0 0))+o1*(b*(f 1 0 - p1.x*f 0 0))+o2*(b*(f 1 0 - p2.x*f 0 0)):=by
 unfold fieldX
 rw [wt_addL,wt_addL,wt_addL,wt_nil,wt_scaleL,wt_scaleL,wt_scaleL,wt_baseX,wt_baseX,wt_baseX]
 grind
theorem wt_fieldY (f:Nat→Nat→Rat) (b o0 o1 o2:Rat) (p0 p1 p2:Pt):wt f (fieldY b o0 o1 o2 p0 p1 p2)=o0*(b*(f 0 1 - p0.y*f 0 0))+o1*(b*(f 0 1 - p1.y*f 0 0))+o2*(b*(f 0 1 - p2.y*f 0 0)):=by
 unfold fieldY
 rw [wt_addL,wt_addL,wt_addL,wt_nil,wt_scaleL,wt_scaleL,wt_scaleL,wt_baseY,wt_baseY,wt_baseY]
 grind
def flowV (gx gy:List T) (a b:Pt):Rat:=
 (b.y - a.y)*sumV (shiftL gx (b.x - a.x) 0 a.x (b.y - a.y) 0 a.y) - (b.x - a.x)*sumV (shiftL gy (b.x - a.x) 0 a.x (b.y - a.y) 0 a.y)
theorem twice_e (a b c:Pt):twice a b c=(b.x - a.x)*(c.y - a.y) - (b.y - a.y)*(c.x - a.x):=rfl
theorem wt_map_dx (f:Nat→Nat→Rat):∀l:List T,wt f (l.map T.dx)=wt (fun i j=>((i:Int):Rat)*f (i - 1) j) l
 | []=>rfl
 | t :: r=>by
  show t.c*((t.i:Int):Rat)*f (t.i - 1) t.j+wt f (r.map T.dx)=t.c*(((t.i:Int):Rat)*f (t.i - 1) t.j)+wt _ r
  rw [wt_map_dx f r]
  grind
theorem wt_map_dy (f:Nat→Nat→Rat):∀l:List T,wt f (l.map T.dy)=wt (fun i j=>((j:Int):Rat)*f i (j - 1)) l
 | []=>rfl
 | t :: r=>by
  show t.c*((t.j:Int):Rat)*f t.i (t.j - 1)+wt f (r.map T.dy)=t.c*(((t.j:Int):Rat)*f t.i (t.j - 1))+wt _ r
  rw [wt_map_dy f r]
  grind
theorem wt_dxL (f:Nat→Nat→Rat) (l:List T):wt f (dxL l)=wt (fun i j=>((i:Int):Rat)*f (i - 1) j) l:=by
 unfold dxL
 rw [wt_gat,wt_map_dx,wt_gat]
theorem wt_dyL (f:Nat→Nat→Rat) (l:List T):wt f (dyL l)=wt (fun i j=>((j:Int):Rat)*f i (j - 1)) l:=by
 unfold dyL
 rw [wt_gat,wt_map_dy,wt_gat]
theorem cf_wt (i j:Nat):∀l:List T,cf l i j=wt (fun a b=>if a=i∧b=j then 1 else 0) l
 | []=>rfl
 | t :: r=>by
  show(if t.i=i∧t.j=j then t.c else 0)+cf r i j=t.c*(if t.i=i∧t.j=j then(1:Rat)else 0)+wt _ r
  rw [cf_wt i j r]
  split<;>grind
end Go.Proofs.YtfgmdhjmgdccdaaGreat
namespace Go.Proofs.YtfgmdhjmgdccdaaGreat
open Go.RowKit Gus Go.Maps
noncomputable def kP:TypeId:=((Tryz.prog.underlying 153).bind fun| .map k _=>some k|_=>none).getD 0
theorem under_P:Tryz.prog.underlying 153=some (.map kP 3):=by kernel_rfl
theorem keyed_P:Keyed Tryz.prog kP:=Keyed.of_law (deep_law_laid (m:=9) (by kernel_rfl) (by omega) (of_decide_eq_true (by kernel_rfl)) (by kernel_rfl) (by kernel_rfl))
theorem keyOf_funP:(fun i j:Int=>keyOf Tryz.prog kP (.agg #[.int .i64 i,.int .i64 j]))=fun i j=>Option.map (fun ls=>Lit.string (keyBytes ls)) (Option.map List.flatten ([[Value.int .i64 i],[Value.int .i64 j]].mapM fun v=>Tryz.prog.keyLits 5 3 v)):=by kernel_rfl
theorem keyOf_P {i j:Nat} (hi:i<9223372036854775808) (hj:j<9223372036854775808):keyOf Tryz.prog kP (.agg #[.int .i64 (i:Int),.int .i64 (j:Int)])=some (klT i j):=by
 have h:=congrFun (congrFun keyOf_funP i) j
 simp only [List.mapM_cons,List.mapM_nil,keyLits_int 4 _ (wf_nat hi),keyLits_int 4 _ (wf_nat hj)]at h
 exact h
def numP (n:Nat) (l:List Edg):List (Value×Value):=l.zipIdx.map fun e=>(endK e.1.a e.1.b,.int .i64 ((n+e.2:Nat):Int))
abbrev MIP (w:World) (b n:Nat) (l:List Edg):Prop:=MI Tryz.prog kP w b (numP n l)
theorem numP_snoc (n:Nat) (l:List Edg) (e:Edg):numP n (l++ [e])=numP n l++ [(endK e.a e.b,.int .i64 ((n+l.length:Nat):Int))]:=by
 simp [numP,List.zipIdx_append]
theorem numP_len (n:Nat) (l:List Edg):(numP n l).length=l.length:=by simp [numP]
theorem numP_miss {n:Nat} {l:List Edg} {a b:Int} (h:∀e∈l,¬(e.a=a∧e.b=b)):∀p∈numP n l,p.1≠endK a b:=by
 intro p hp e1
 obtain ⟨⟨e,i⟩,he,rfl⟩:=List.mem_map.1 hp
 have hm:e∈l:=(List.mem_iff_getElem?.2 ⟨i,(List.mem_zipIdx_iff_getElem?.1 he)⟩)
 refine h e hm ?_
 simpa [endK] using e1
theorem numP_mem {n:Nat} {l:List Edg} {i:Nat} {e:Edg} (h:l[i]? =some e):(endK e.a e.b,Value.int .i64 ((n+i:Nat):Int))∈numP n l:=
 List.mem_map.2 ⟨(e,i),List.mem_zipIdx_iff_getElem?.2 h,rfl⟩
abbrev iC (n:Nat):List Value:= [.int .i64 (n:Int)]
def RW (w:World) (B:Nat) (v:Value) (l:List (List Nat)):Prop:=
 ∃rs:List Value,SR (fun v=> [v]) 1 185 w B v rs∧rs.length=l.length∧∀(i:Nat) (r:Value) (x:List Nat),rs[i]? =some r→l[i]? =some x→SR iC 1 3 w B r x
end Go.Proofs.YtfgmdhjmgdccdaaGreat
namespace Go.Proofs.YtfgmdhjmgdccdaaGreat
open Go.RowKit Gus Go.Maps
def edgeNo (es:List Edg) (a b:Nat):Nat:=es.findIdx fun e=>e.a == ((min a b:Nat):Int) && e.b == ((max a b:Nat):Int)
def hasE (es:List Edg) (a b:Nat):Prop:= ∃e∈es,e.a=((min a b:Nat):Int)∧e.b=((max a b:Nat):Int)
theorem edgeNo_get {es:List Edg} {a b:Nat} (h:hasE es a b):∃e,es[edgeNo es a b]? =some e∧e.a=((min a b:Nat):Int)∧e.b=((max a b:Nat):Int):=by
 obtain ⟨e,he,h1,h2⟩:=h
 have hlt:edgeNo es a b<es.length:=List.findIdx_lt_length_of_exists ⟨e,he,by simp [h1,h2]⟩
 refine⟨es[edgeNo es a b],List.getElem?_eq_getElem hlt,?_⟩
 have:=List.findIdx_getElem (w:=hlt)
 rw [Bool.and_eq_true,beq_iff_eq,beq_iff_eq]at this
 exact this
theorem edge_lt {es:List Edg} {a b:Nat} (h:hasE es a b):edgeNo es a b<es.length:=by
 obtain ⟨e,he,_⟩:=edgeNo_get h
 exact(List.getElem?_eq_some_iff.1 he).1
theorem edge_lk {es:List Edg} {a b mb:Nat} (h:hasE es a b) (ha:a<1000000) (hb:b<1000000) (W:World) (hM:MIP W mb 0 es):(Instr.lookup 153 (.map (some mb)) (.agg #[.int .i64 ((min a b:Nat):Int),.int .i64 ((max a b:Nat):Int)]) false).run Tryz.prog W= .ok (.int .i64 (edgeNo es a b:Int)) W:=by
 obtain ⟨e,he1,h1,h2⟩:=edgeNo_get h
 have hm:=numP_mem (n:=0) he1
 rw [h1,h2,Nat.zero_add]at hm
 exact MI.look_some false hM keyed_P under_P (zeroInt _) (keyOf_P (by omega) (by omega)) hm
abbrev Part:=Nat×Int
def sgnE (a b:Nat):Int:=if b<a then -1 else 1
def partE (es:List Edg) (a b:Nat):Part:=(edgeNo es a b,sgnE a b)
def corT (t:Tri) (k:Nat):Nat:=if k % 3=0 then t.1 else if k % 3=1 then t.2.1 else t.2.2
def partsT (es:List Edg) (t:Tri):Nat→Part:=fun k=>partE es (corT t (k+1)) (corT t (k+2))
def p3C (x:Nat→Part):List Value:= [.int .i64 ((x 0).1:Int),.int .i64 (x 0).2,.int .i64 ((x 1).1:Int),.int .i64 (x 1).2,.int .i64 ((x 2).1:Int),.int .i64 (x 2).2]
theorem p3C_len (x:Nat→Part):(p3C x).length=6:=rfl
def updF (x:Nat→Part) (k:Nat) (v:Part):Nat→Part:=fun j=>if j=k then v else x j
theorem p3C_upd (x:Nat→Part) {k:Nat} (hk:k<3) (v:Part):p3C (updF x k v)=(p3C x).take (k*2)++ [.int .i64 (v.1:Int),.int .i64 v.2]++(p3C x).drop (k*2+2):=by
 rcases(show k=0∨k=1∨k=2 by omega)with rfl|rfl|rfl<;>rfl
theorem p3C_sgn (x:Nat→Part) {k:Nat} (hk:k<3) (e:Nat) (s u:Int):p3C (updF x k (e,u))=(p3C (updF x k (e,s))).take (k*2+1)++ [.int .i64 u]++(p3C (updF x k (e,s))).drop (k*2+1+1):=by
 rcases(show k=0∨k=1∨k=2 by omega)with rfl|rfl|rfl<;>rfl
def Rows (es:List Edg) (l:List Tri) (R:List (Nat→Part)) (i k:Nat):Prop:=R.length=l.length∧∀j q t,l[j]? =some t→q<3→(j<i∨j=i∧q<k)→∃x,R[j]? =some x∧x q=partsT es t q
theorem rows_0 (es:List Edg) (l:List Tri):Rows es l (List.replicate l.length fun _=>(0,0)) 0 0:=⟨by simp,fun j q t _ _ h=>by omega⟩
theorem rows_step {es:List Edg} {l:List Tri} {R:List (Nat→Part)} {i k:Nat} (h:Rows es l R i k) {t:Tri} (ht:l[i]? =some t) {x:Nat→Part} (hx:R[i]? =some x) {v:Part} (hv:v=partsT es t k):Rows es l (R.set i (updF x k v)) i (k+1):=by
 refine⟨by rw [List.length_set];exact h.1,fun j q t' ht' hq hh=>?_⟩
 have hil:=(List.getElem?_eq_some_iff.1 hx).1
 by_cases e:j=i
 ·subst e
  obtain rfl:=Option.some.inj (ht.symm.trans ht')
  refine⟨_,List.getElem?_set_self hil,?_⟩
  unfold updF
  by_cases e2:q=k
  ·rw [if_pos e2,e2];exact hv
  ·rw [if_neg e2]
   obtain ⟨y,hy,hy2⟩:=h.2 j q _ ht' hq (by omega)
   cases hx.symm.trans hy
   exact hy2
 ·obtain ⟨y,hy,hy2⟩:=h.2 j q _ ht' hq (by omega)
  exact⟨y,by rw [List.getElem?_set_ne (by omega)];exact hy,hy2⟩
theorem rows_next {es:List Edg} {l:List Tri} {R:List (Nat→Part)} {i:Nat} (h:Rows es l R i 3):Rows es l R (i+1) 0:=⟨h.1,fun j q t ht hq hh=>h.2 j q t ht hq (by omega)⟩
theorem flatMap_get {α β:Type} {f g:α→List β} {l m:List α} (h1:l.length=m.length) (h:∀(j:Nat) (x y:α),l[j]? =some x→m[j]? =some y→f x=g y):l.flatMap f=m.flatMap g:=by
 induction l generalizing m with
 | nil=>cases m with
  | nil=>rfl
  | cons b m=>cases h1
 | cons a l ih=>cases m with
  | nil=>cases h1
  | cons b m=>
   rw [List.flatMap_cons,List.flatMap_cons,h 0 a b rfl rfl,ih (by simpa using h1) (fun j x y hx hy=>h (j+1) x y (by simpa using hx) (by simpa using hy))]
theorem rows_done {es:List Edg} {l:List Tri} {R:List (Nat→Part)} {n:Nat} (hn:n=l.length) (h:Rows es l R n 0):R.flatMap p3C=(l.map (partsT es)).flatMap p3C:=by
 refine flatMap_get (by rw [h.1,List.length_map]) fun j x y hx hy=>?_
 have hj:j<l.length:=by rw [←h.1];exact(List.getElem?_eq_some_iff.1 hx).1
 rw [List.getElem?_map,List.getElem?_eq_getElem hj]at hy
 cases hy
 have key:∀q,q<3→x q=partsT es l[j] q:=fun q hq=>by
  obtain ⟨x',h1,h2⟩:=h.2 j q _ (List.getElem?_eq_getElem hj) hq (by omega)
  cases hx.symm.trans h1
  exact h2
 simp only [p3C,key 0 (by omega),key 1 (by omega),key 2 (by omega)]
theorem SR.cong {α:Type} {enc:α→List Value} {k:Nat} {t:TypeId} {w:World} {B:Nat} {v:Value} {l m:List α} (hk:∀x,(enc x).length=k) (h:SR enc k t w B v l) (h1:l.length=m.length) (h2:l.flatMap enc=m.flatMap enc):SR enc k t w B v m:=by
 rcases h with⟨e1,e2⟩|⟨g,cap,e1,e2,e3,e4,e5,e6⟩
 ·exact .inl ⟨e1,by subst e2;exact List.length_eq_zero_iff.1 h1.symm⟩
 ·exact .inr ⟨g,cap,h1 ▸ e1,e2,h1 ▸ e3,e4,e5,RC.of_flat hk fun i u hu=>e6.flat hk i u (h2 ▸ hu)⟩
def outR (V:List Rat) (p:Part):Rat:=((p.2:Int):Rat)*V.getD p.1 0
def netR (V:List Rat) (x:Nat→Part):Rat:=((0+outR V (x 0))+outR V (x 1))+outR V (x 2)
theorem SR.kp {α:Type} {enc:α→List Value} {k:Nat} {t:TypeId} {w w':World} {B:Nat} {v:Value} {l:List α} {row:Option Nat} (h:SR enc k t w B v l) (hk:Kp w w' row) (hr:∀g,v.ownBlock=some g→some g≠row):SR enc k t w' B v l:=by
 rcases h with h|⟨g,cap,e1,e2,e3,e4,e5,e6⟩
 ·exact .inl h
 ·have hne:some g≠row:=hr g (by rw [e1];rfl)
  exact .inr ⟨g,cap,e1,e2,e3,e4,(by obtain ⟨N,h⟩:=e5;exact⟨N,hk.sh h hne⟩),hk.rc e6 e5.lt hne⟩
abbrev qC (q:Rat):List Value:= [vA q,vB q,vC q,vD q,vE q]
theorem qC_len (q:Rat):(qC q).length=5:=rfl
theorem qC_one (q:Rat):∀v∈qC q,v.oneCell'=true:=by simp [Value.oneCell']
theorem RC.fQ {w:World} {g:Nat} {l:List Rat} (h:RC qC 5 w g l) {j:Nat} (hj:j<l.length) {y:Rat} (hy:l[j]=y):w.cell? ⟨g,j*5,none⟩=some (vA y)∧w.cell? ⟨g,j*5+1,none⟩=some (vB y)∧w.cell? ⟨g,j*5+2,none⟩=some (vC y)∧w.cell? ⟨g,j*5+3,none⟩=some (vD y)∧w.cell? ⟨g,j*5+4,none⟩=some (vE y):=by
 subst hy
 exact⟨h j hj 0 _ rfl,h j hj 1 _ rfl,h j hj 2 _ rfl,h j hj 3 _ rfl,h j hj 4 _ rfl⟩
def FS (w:World) (B:Nat) (vp vt vs vv:Value) (m:Msh) (V:List Rat):Prop:=MS w B vp vt vs m∧SR qC 5 59 w B vv V
theorem FS.gr {w w':World} {B:Nat} {vp vt vs vv:Value} {m:Msh} {V:List Rat} (h:FS w B vp vt vs vv m V) (hg:Gr w.heap.size w w'):FS w' B vp vt vs vv m V:=⟨h.1.gr hg,h.2.gr hg⟩
theorem made6 (z:Value) (n:Nat):madeCells #[z,z,z,z,z,z] (n*6)=(List.replicate (n*6) z).toArray:=by
 unfold madeCells
 apply Array.ext
 ·simp
 ·intro i h1 h2
  simp only [Array.getElem_map,Array.getElem_range,List.getElem_toArray,List.getElem_replicate]
  have h:i % 6<6:=Nat.mod_lt _ (by omega)
  show #[z,z,z,z,z,z][i % 6]! =z
  rcases(show i % 6=0∨i % 6=1∨i % 6=2∨i % 6=3∨i % 6=4∨i % 6=5 by omega)with e|e|e|e|e|e<;>rw [e]<;>rfl
theorem rows_flat0 (n:Nat):List.replicate (n*6) (Value.int .i64 0)=(List.replicate n (fun _:Nat=>((0,0):Part))).flatMap p3C:=by
 induction n with
 | zero=>rfl
 | succ n ih=>rw [List.replicate_succ,List.flatMap_cons,←ih,Nat.succ_mul,Nat.add_comm,←List.replicate_append_replicate];rfl
theorem tmod3_1 {k:Nat} (h:k<3):((k:Int)+1).tmod 3=(((k+1) % 3:Nat):Int):=by
 rw [Int.tmod_eq_emod_of_nonneg (by omega)];omega
theorem tmod3_2 {k:Nat} (h:k<3):((k:Int)+2).tmod 3=(((k+2) % 3:Nat):Int):=by
 rw [Int.tmod_eq_emod_of_nonneg (by omega)];omega
theorem corT_get (t:Tri) (k:Nat):([Value.int .i64 (t.1:Int),.int .i64 (t.2.1:Int),.int .i64 (t.2.2:Int)])[k % 3]? =some (.int .i64 (corT t k:Int)):=by
 unfold corT
 rcases(show k % 3=0∨k % 3=1∨k % 3=2 by omega)with e|e|e<;>rw [e]<;>rfl
theorem rows_cells {w:World} {rb n B:Nat} {t:TypeId} {R:List (Nat→Part)} {i k:Nat} {x:Nat→Part} (h:SL p3C 6 t w B (.slice (some ⟨rb,0,none⟩) n n) R) (hx:R[i]? =some x) (hk:k<3):
  w.cell? ⟨rb,i*6+k*2,none⟩=some (.int .i64 ((x k).1:Int))∧w.cell? ⟨rb,i*6+k*2+1,none⟩=some (.int .i64 (x k).2)∧w.frozen? ⟨rb,i*6+k*2,none⟩=false∧w.frozen? ⟨rb,i*6+k*2+1,none⟩=false∧rb<w.heap.size:=by
 obtain ⟨hi,hxi⟩:=List.getElem?_eq_some_iff.1 hx
 rcases h with⟨h,_⟩|⟨g',cap,h1,h2,h3,h4,h5,h6⟩
 ·cases h
 ·cases h1
  have g0:(p3C x)[k*2]? =some (.int .i64 ((x k).1:Int)):=by rcases(show k=0∨k=1∨k=2 by omega)with rfl|rfl|rfl<;>rfl
  have g1:(p3C x)[k*2+1]? =some (.int .i64 (x k).2):=by rcases(show k=0∨k=1∨k=2 by omega)with rfl|rfl|rfl<;>rfl
  rw [←hxi]at g0 g1
  rw [hxi]at g0 g1
  exact⟨h6 i hi _ _ (by rw [hxi];exact g0),by have:=h6 i hi _ _ (by rw [hxi];exact g1);rwa [←Nat.add_assoc]at this,h5.frozen _,h5.frozen _,h5.lt⟩
theorem rows_put {w:World} {rb n B:Nat} {t:TypeId} {R:List (Nat→Part)} {i k:Nat} {x:Nat→Part} (h:SL p3C 6 t w B (.slice (some ⟨rb,0,none⟩) n n) R) (hn:R.length=n) (hx:R[i]? =some x) (hk:k<3) (e:Nat) (s:Int):
  SL p3C 6 t ((w.setCell ⟨rb,i*6+k*2,none⟩ (.int .i64 (e:Int))).setCell ⟨rb,i*6+k*2+1,none⟩ (.int .i64 s)) B (.slice (some ⟨rb,0,none⟩) n n) (R.set i (updF x k (e,s))):=by
 subst hn
 obtain ⟨hi,hxi⟩:=List.getElem?_eq_some_iff.1 hx
 have:=h.put p3C_len hi (updF x k (e,s)) (k*2) [.int .i64 (e:Int),.int .i64 s] (by rw [hxi];exact p3C_upd x hk (e,s)) (by simp;omega)
 exact this
theorem rows_sgn {w:World} {rb n B:Nat} {t:TypeId} {R:List (Nat→Part)} {i k:Nat} {x:Nat→Part} {e:Nat} {s:Int} (h:SL p3C 6 t w B (.slice (some ⟨rb,0,none⟩) n n) (R.set i (updF x k (e,s)))) (hn:R.length=n) (hx:R[i]? =some x) (hk:k<3) (u:Int):
  SL p3C 6 t (w.setCell ⟨rb,i*6+k*2+1,none⟩ (.int .i64 u)) B (.slice (some ⟨rb,0,none⟩) n n) (R.set i (updF x k (e,u))):=by
 obtain ⟨hi,hxi⟩:=List.getElem?_eq_some_iff.1 hx
 have h1:(R.set i (updF x k (e,s))).length=n:=by rw [List.length_set];exact hn
 rw [←h1]at h ⊢
 have hi2:i<(R.set i (updF x k (e,s))).length:=by rw [List.length_set];exact hi
 have:=h.put p3C_len hi2 (updF x k (e,u)) (k*2+1) [.int .i64 u] (by rw [List.getElem_set_self];exact p3C_sgn x hk e s u) (by simp;omega)
 rw [List.set_set,←Nat.add_assoc]at this
 exact this
theorem p3C_g0 (x:Nat→Part) {k:Nat} (hk:k<3):(p3C x)[k*2]? =some (.int .i64 ((x k).1:Int)):=by rcases(show k=0∨k=1∨k=2 by omega)with rfl|rfl|rfl<;>rfl
theorem p3C_g1 (x:Nat→Part) {k:Nat} (hk:k<3):(p3C x)[k*2+1]? =some (.int .i64 (x k).2):=by rcases(show k=0∨k=1∨k=2 by omega)with rfl|rfl|rfl<;>rfl
end Go.Proofs.YtfgmdhjmgdccdaaGreat
