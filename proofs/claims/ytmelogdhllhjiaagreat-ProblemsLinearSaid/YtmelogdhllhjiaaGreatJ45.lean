/-
  Part 45 of the proof: FinL OpenL.
-/
import Derived.Test.YtmelogdhllhjiaaGreatJ41
import Derived.Test.YtmelogdhllhjiaaGreatJ43
import Derived.Test.YtmelogdhllhjiaaGreatJ44
import Derived.Test.YtmelogdhllhjiaaGreatJ42
import Derived.Deep.Strs
import Derived.ProofKit
import Derived.OpenShut
set_option linter.unusedSimpArgs false
set_option linter.unusedVariables false
namespace Go.Proofs.YtmelogdhllhjiaaGreat
open Go.RowKit Gus
theorem mul_b {a b A B C:Nat} (h1:a≤A) (h2:b≤B) (h:A*B≤C):a*b≤C:=Nat.le_trans (Nat.mul_le_mul h1 h2) h
theorem tot_constT (r:Rat):tot (constT r)≤hw r+1:=by
 unfold constT
 split
 ·simp [tot]
 ·simp [tot]
theorem tot_xL':tot xL≤1000:=by decide+kernel
theorem tot_yL':tot yL≤1000:=by decide+kernel
theorem same_big {l m:List T} (ho:∀t∈l,t.ok) (hp:∀t∈m,t.ok) (ht:tot l≤100000000000) (hu:tot m≤100000000000) (h:gat l=gat m) (v u:Value) (W:World) (h1:PL W 0 v l) (h2:PL W 0 u m):Calls Tryz.prog 14 #[v,u] W (Ret W (.bool true)):=by
 have h3:=po_Same l m v u W h1 h2 ho hp ht hu
 rwa [decide_eq_true h]at h3
theorem deg_big {l:List T} (ho:∀t∈l,t.ok) (ht:tot l≤100000000000) (h:degL (gat l)= -1) (v:Value) (W:World) (h1:PL W 0 v l):Calls Tryz.prog 15 #[v] W (Ret W (.int .i64 (-1))):=by
 have h3:=po_Degree l v W h1 ho ht
 rwa [h]at h3
set_option maxHeartbeats 4000000 in
theorem law_true (n0 n1 n2 n3 n:Int) (d0 d1 d2 d3 d:Nat) (l0 l1:List TQ) (c0 c1:Value) (p0:i64ok n0) (p1:i64ok n1) (p2:i64ok n2) (p3:i64ok n3) (pn:i64ok n) (q0:d0<4294967296) (q1:d1<4294967296) (q2:d2<4294967296) (q3:d3<4294967296) (qn:d<4294967296)
  (o0:∀t∈l0,t.ok) (o1:∀t∈l1,t.ok) (w:World) (r0:RS tqC 4 w c0 l0) (r1:RS tqC 4 w c1 l1):
  Calls Tryz.prog 3 #[k4V n0 d0 n1 d1 n2 d2 n3 d3,.agg #[c0,c1],qV n d] w (Ret w (.bool true)):=by
 obtain ⟨a0,m0,rfl⟩:=r0.at
 obtain ⟨a1,m1,rfl⟩:=r1.at
 by_cases h1:20<l0.length
 ·exact law_long0 n0 n1 n2 n3 n d0 d1 d2 d3 d l0 l1 a0 a1 m0 m1 h1 lives_true w
 by_cases h2:20<l1.length
 ·exact law_long1 n0 n1 n2 n3 n d0 d1 d2 d3 d l0 l1 a0 a1 m0 m1 h1 h2 lives_true w
 obtain ⟨a,ha⟩:∃x,x=qQ n0 d0:=⟨_,rfl⟩
 obtain ⟨b,hb⟩:∃x,x=qQ n1 d1:=⟨_,rfl⟩
 obtain ⟨c,hc⟩:∃x,x=qQ n2 d2:=⟨_,rfl⟩
 obtain ⟨q,hq⟩:∃x,x=qQ n3 d3:=⟨_,rfl⟩
 obtain ⟨r,hr⟩:∃x,x=qQ n d:=⟨_,rfl⟩
 have oa:∀w,Calls Tryz.prog 5 #[qV n0 d0] w (Ret w (fracV a)):=fun w=>ha ▸ q_Of n0 d0 w p0.1 p0.2 q0
 have ob:∀w,Calls Tryz.prog 5 #[qV n1 d1] w (Ret w (fracV b)):=fun w=>hb ▸ q_Of n1 d1 w p1.1 p1.2 q1
 have oc:∀w,Calls Tryz.prog 5 #[qV n2 d2] w (Ret w (fracV c)):=fun w=>hc ▸ q_Of n2 d2 w p2.1 p2.2 q2
 have oq:∀w,Calls Tryz.prog 5 #[qV n3 d3] w (Ret w (fracV q)):=fun w=>hq ▸ q_Of n3 d3 w p3.1 p3.2 q3
 have or':∀w,Calls Tryz.prog 5 #[qV n d] w (Ret w (fracV r)):=fun w=>hr ▸ q_Of n d w pn.1 pn.2 qn
 have ba:hw a≤4:=ha ▸ hw_qQ n0 d0 p0 q0
 have bb:hw b≤4:=hb ▸ hw_qQ n1 d1 p1 q1
 have bc:hw c≤4:=hc ▸ hw_qQ n2 d2 p2 q2
 have bq:hw q≤4:=hq ▸ hw_qQ n3 d3 p3 q3
 have br':hw r≤4:=hr ▸ hw_qQ n d pn qn
 have b0:=hw_r0
 clear ha hb hc hq hr
 have mu:∀W,RS tqC 4 W (.slice a0 l0.length m0) l0→Calls Tryz.prog 6 #[.slice a0 l0.length m0,.int .i64 8] W (RetP W (madeL l0)):=fun W h=>pr_Made8 l0 (by omega) o0 a0 m0 W h
 have mz:∀W,RS tqC 4 W (.slice a1 l1.length m1) l1→Calls Tryz.prog 6 #[.slice a1 l1.length m1,.int .i64 8] W (RetP W (madeL l1)):=fun W h=>pr_Made8 l1 (by omega) o1 a1 m1 W h
 have ku:=ok_madeL l0
 have kz:=ok_madeL l1
 have tu:=tot_madeL o0 (by omega)
 have tz:=tot_madeL o1 (by omega)
 generalize madeL l0=u at *
 generalize madeL l1=zz at *
 have kv:=ok_scaleL (k:=r) kz
 have tv:tot (scaleL r zz)≤500:=Nat.le_trans (tot_scaleL r zz) (mul_b tz (show hw r+1≤5 by omega) (by decide))
 have kw:=ok_addL ku kv
 have tw:tot (addL u (scaleL r zz))≤600:=Nat.le_trans (tot_addL _ _) (by omega)
 have hB:72*(hw a+hw b+hw c+hw q+4)≤1440:=by omega
 have hB0:72*(hw a+hw b+hw c+hw 0+4)≤1512:=by omega
 have hF:3*(hw a+hw b+hw c+4)≤48:=by omega
 have hab:3*(hw a+hw b+2)≤30:=by omega
 have hbc:3*(hw b+hw c+2)≤30:=by omega
 have hr2:hw r+2≤6:=by omega
 have hr1:hw r+1≤5:=by omega
 have hq2:hw q+2≤6:=by omega
 have hq1:hw q+1≤5:=by omega
 have ks:=ok_sourceL (a:=a) (b:=b) (c:=c) (q:=q) kw
 have ksu:=ok_sourceL (a:=a) (b:=b) (c:=c) (q:=q) ku
 have ksz:=ok_sourceL (a:=a) (b:=b) (c:=c) (q:=q) kz
 have ts:tot (sourceL a b c q (addL u (scaleL r zz)))≤864000:=Nat.le_trans (tot_sourceL kw) (mul_b tw hB (by decide))
 have tsu:tot (sourceL a b c q u)≤144000:=Nat.le_trans (tot_sourceL ku) (mul_b tu hB (by decide))
 have tsz:tot (sourceL a b c q zz)≤144000:=Nat.le_trans (tot_sourceL kz) (mul_b tz hB (by decide))
 have kss:=ok_scaleL (k:=r) ksz
 have tss:tot (scaleL r (sourceL a b c q zz))≤720000:=Nat.le_trans (tot_scaleL r _) (mul_b tsz hr1 (by decide))
 have kt:=ok_addL ksu kss
 have tt:tot (addL (sourceL a b c q u) (scaleL r (sourceL a b c q zz)))≤864000:=Nat.le_trans (tot_addL _ _) (by omega)
 have kg0:=ok_flow1 (a:=a) (b:=b) kw
 have kg1:=ok_flow1 (a:=b) (b:=c) kw
 have kh0:=ok_flow1 (a:=a) (b:=b) ku
 have kh1:=ok_flow1 (a:=b) (b:=c) ku
 have ki0:=ok_flow1 (a:=a) (b:=b) kv
 have ki1:=ok_flow1 (a:=b) (b:=c) kv
 have tg0:tot (flow1 a b (addL u (scaleL r zz)))≤18000:=Nat.le_trans (tot_flow1 kw) (mul_b tw hab (by decide))
 have tg1:tot (flow1 b c (addL u (scaleL r zz)))≤18000:=Nat.le_trans (tot_flow1 kw) (mul_b tw hbc (by decide))
 have th0:tot (flow1 a b u)≤3000:=Nat.le_trans (tot_flow1 ku) (mul_b tu hab (by decide))
 have th1:tot (flow1 b c u)≤3000:=Nat.le_trans (tot_flow1 ku) (mul_b tu hbc (by decide))
 have ti0:tot (flow1 a b (scaleL r zz))≤15000:=Nat.le_trans (tot_flow1 kv) (mul_b tv hab (by decide))
 have ti1:tot (flow1 b c (scaleL r zz))≤15000:=Nat.le_trans (tot_flow1 kv) (mul_b tv hbc (by decide))
 have ke0:=ok_addL kh0 ki0
 have ke1:=ok_addL kh1 ki1
 have te0:tot (addL (flow1 a b u) (flow1 a b (scaleL r zz)))≤18000:=Nat.le_trans (tot_addL _ _) (by omega)
 have te1:tot (addL (flow1 b c u) (flow1 b c (scaleL r zz)))≤18000:=Nat.le_trans (tot_addL _ _) (by omega)
 have kc:=ok_constT r
 have tc:tot (constT r)≤5:=Nat.le_trans (tot_constT r) hr1
 have kf0:=ok_flow1 (a:=a) (b:=b) kc
 have kf1:=ok_flow1 (a:=b) (b:=c) kc
 have tf0:tot (flow1 a b (constT r))≤150:=Nat.le_trans (tot_flow1 kc) (mul_b tc hab (by decide))
 have tf1:tot (flow1 b c (constT r))≤150:=Nat.le_trans (tot_flow1 kc) (mul_b tc hbc (by decide))
 have kx:=ok_scaleL (k:=r) ok_xL'
 have ky:=ok_scaleL (k:=q) ok_yL'
 have tx:tot (scaleL r xL)≤5000:=Nat.le_trans (tot_scaleL r xL) (mul_b tot_xL' hr1 (by decide))
 have ty:tot (scaleL q yL)≤5000:=Nat.le_trans (tot_scaleL q yL) (mul_b tot_yL' hq1 (by decide))
 have kp:=ok_addL kx ky
 have tp:tot (addL (scaleL r xL) (scaleL q yL))≤10000:=Nat.le_trans (tot_addL _ _) (by omega)
 have kpp:=ok_sourceL (a:=a) (b:=b) (c:=c) (q:=0) kp
 have tpp:tot (sourceL a b c 0 (addL (scaleL r xL) (scaleL q yL)))≤15120000:=Nat.le_trans (tot_sourceL kp) (mul_b tp hB0 (by decide))
 exact law_short n0 n1 n2 n3 n d0 d1 d2 d3 d l0 l1 a0 a1 m0 m1 a b c q r u zz (scaleL r zz) (addL u (scaleL r zz)) (sourceL a b c q (addL u (scaleL r zz))) (sourceL a b c q u) (sourceL a b c q zz) (scaleL r (sourceL a b c q zz)) (addL (sourceL a b c q u) (scaleL r (sourceL a b c q zz)))
  (flow1 a b (addL u (scaleL r zz))) (flow1 b c (addL u (scaleL r zz))) (flow1 a b u) (flow1 b c u) (flow1 a b (scaleL r zz)) (flow1 b c (scaleL r zz)) (constT r) (flow1 a b (constT r)) (flow1 b c (constT r)) xL yL (scaleL r xL) (scaleL q yL) (addL (scaleL r xL) (scaleL q yL)) (sourceL a b c 0 (addL (scaleL r xL) (scaleL q yL)))
  (addL (flow1 a b u) (flow1 a b (scaleL r zz))) (addL (flow1 b c u) (flow1 b c (scaleL r zz))) h1 h2 oa ob oc oq or' mu mz
  (fun v W h=>po_Scale r zz v W h kz (mul_b tz hr2 (by decide))) (fun v x W h h'=>po_Add u (scaleL r zz) v x W h h' ku kv (by omega))
  (fun v W h=>pr_Source a b c q _ v W h kw (mul_b tw hB (by decide))) (fun v W h=>pr_Source a b c q u v W h ku (mul_b tu hB (by decide))) (fun v W h=>pr_Source a b c q zz v W h kz (mul_b tz hB (by decide)))
  (fun v W h=>po_Scale r _ v W h ksz (mul_b tsz hr2 (by decide))) (fun v x W h h'=>po_Add _ _ v x W h h' ksu kss (by omega))
  (fun v W h=>pr_Flow a b c _ v W h kw (mul_b tw hF (by decide))) (fun v W h=>pr_Flow a b c u v W h ku (mul_b tu hF (by decide))) (fun v W h=>pr_Flow a b c _ v W h kv (mul_b tv hF (by decide)))
  (fun W=>po_Const r W (by omega)) (fun v W h=>pr_Flow a b c _ v W h kc (mul_b tc hF (by decide))) po_X po_Y
  (fun v W h=>po_Scale r xL v W h ok_xL' (mul_b tot_xL' hr2 (by decide))) (fun v W h=>po_Scale q yL v W h ok_yL' (mul_b tot_yL' hq2 (by decide))) (fun v x W h h'=>po_Add _ _ v x W h h' kx ky (by omega))
  (fun v W h=>pr_Source a b c 0 _ v W h kp (mul_b tp hB0 (by decide)))
  (same_big ks kt (by omega) (by omega) (lin_source a b c q r ku kz))
  (fun v x W h h'=>po_Add _ _ v x W h h' kh0 ki0 (by omega)) (same_big kg0 ke0 (by omega) (by omega) (lin_flow a b ku kv))
  (fun v x W h h'=>po_Add _ _ v x W h h' kh1 ki1 (by omega)) (same_big kg1 ke1 (by omega) (by omega) (lin_flow b c ku kv))
  (deg_big kf0 (by omega) (lin_flat a b r)) (deg_big kf1 (by omega) (lin_flat b c r)) (deg_big kpp (by omega) (lin_plane a b c r q)) lives_true w r0 r1
end Go.Proofs.YtmelogdhllhjiaaGreat
namespace Go.Proofs.YtmelogdhllhjiaaGreat
open Go.ChangeShapes Go.WideShapes Go.RowKit Go.Deep
theorem cellsQ:Tryz.prog.cellsOf 24=2:=by kernel_rfl
theorem cellsT:Tryz.prog.cellsOf 100=4:=by kernel_rfl
theorem cellsN:Tryz.prog.cellsOf 2=1:=by kernel_rfl
theorem cellsI:Tryz.prog.cellsOf 3=1:=by kernel_rfl
theorem cellsD:Tryz.prog.cellsOf 22=1:=by kernel_rfl
theorem cellsL:Tryz.prog.cellsOf 26=1:=by kernel_rfl
theorem cells4 {w:World} {b:Nat} {a:Addr} {cs:List Value} (h:w.cells? b a 4=some cs):∃c0 c1 c2 c3,cs= [c0,c1,c2,c3]∧w.cell? (a.add 0)=some c0∧w.cell? (a.add 1)=some c1∧w.cell? (a.add 2)=some c2∧w.cell? (a.add 3)=some c3:=by
 unfold World.cells? at h
 split at h
 ·rw [show List.range 4= [0,1,2,3]from rfl]at h
  simp only [List.mapM_cons,List.mapM_nil,bind,Option.bind_eq_some_iff,pure,Option.some.injEq]at h
  obtain ⟨c0,h0,x,⟨c1,h1,y,⟨c2,h2,z,⟨c3,h3,u,rfl,rfl⟩,rfl⟩,rfl⟩,rfl⟩:=h
  exact⟨_,_,_,_,rfl,h0,h1,h2,h3⟩
 ·cases h
theorem cell_lt {w:World} {a:Addr} {v:Value} (h:w.cell? a=some v):a.block<w.heap.size:=by
 rcases Nat.lt_or_ge a.block w.heap.size with h'|h'
 ·exact h'
 ·simp [World.cell?,Array.getElem?_eq_none h']at h
set_option maxRecDepth 100000 in
theorem open_Q {H:Type} {enc:TypeId×Value→H} {w:World} {base m:Nat} {sp:Nat→Bool} {hd:Bool} {c d:Value} {y:DataW H×List MemPlace} (h:DataW.trod enc Tryz.prog w base sp hd m 24 [c,d]=some y):
  ∃(n:Int) (b:Nat),c= .int .i64 n∧d= .int .u32 (b:Int)∧i64ok n∧b<4294967296:=by
 obtain ⟨y0,y1,k,rfl,_,h0,h1⟩:=trod_struct2 Tryz.underlying24 h
 obtain ⟨n,e0,rfl,w0⟩:=DataW.trod_int Tryz.underlying2 h0
 obtain ⟨b,e1,rfl,w1⟩:=DataW.trod_int Tryz.underlying22 h1
 rw [cellsN]at e0
 rw [cellsD]at e1
 simp at e0 e1
 subst e0 e1
 have hb:=bounds_u32 w1
 obtain ⟨b',rfl⟩:∃b':Nat,b=(b':Int):=⟨b.toNat,by omega⟩
 exact⟨n,b',rfl,rfl,bounds_i64 w0,by omega⟩
set_option maxRecDepth 100000 in
theorem open_T {H:Type} {enc:TypeId×Value→H} {w:World} {base m:Nat} {sp:Nat→Bool} {hd:Bool} {c0 c1 c2 c3:Value} {y:DataW H×List MemPlace} (h:DataW.trod enc Tryz.prog w base sp hd m 100 [c0,c1,c2,c3]=some y):
  ∃t:TQ,t.ok∧tqC t= [c0,c1,c2,c3]:=by
 obtain ⟨y0,y1,y2,k,rfl,_,h0,h1,h2⟩:=trod_struct3 Tryz.underlying100 h
 obtain ⟨i,e0,rfl,w0⟩:=DataW.trod_int Tryz.underlying3 h0
 obtain ⟨j,e1,rfl,w1⟩:=DataW.trod_int Tryz.underlying3 h1
 rw [cellsI]at e0 e1
 rw [cellsQ]at h2
 simp at e0 e1 h2
 obtain ⟨n,b,rfl,rfl,p,q⟩:=open_Q h2
 subst e0 e1
 exact⟨⟨i,j,n,b⟩,⟨bounds_i64 w0,bounds_i64 w1,p,q⟩,rfl⟩
set_option maxRecDepth 100000 in
theorem open_L {H:Type} {enc:TypeId×Value→H} {w:World} {m:Nat} {sp:Nat→Bool} {hd:Bool} {c:Value} {y:DataW H×List MemPlace} (h:DataW.trod enc Tryz.prog w 0 sp hd m 26 [c]=some y):
  ∃l:List TQ,RS tqC 4 w c l∧∀t∈l,t.ok:=by
 rcases open_slice Tryz.underlying26 h with⟨e,_⟩|⟨a,len,cap,m',n,D,Pl,e,_,hl,hm,rfl,_,hi⟩
 ·simp at e
  subst e
  exact⟨[],.inl ⟨_,_,rfl,rfl⟩,by simp⟩
 ·simp at e
  subst e
  rw [cellsT]at hi
  have key:∀i,i<len→∃t:TQ,t.ok∧w.cell? (a.add (i*4))=some (.int .i64 t.i)∧w.cell? (a.add (i*4+1))=some (.int .i64 t.j)∧w.cell? (a.add (i*4+2))=some (.int .i64 t.n)∧w.cell? (a.add (i*4+3))=some (.int .u32 (t.d:Int)):=by
   intro i hlt
   obtain ⟨cs,h1,h2⟩:=hi i (by split<;>omega)
   obtain ⟨c0,c1,c2,c3,rfl,g0,g1,g2,g3⟩:=cells4 h1
   obtain ⟨t,ht,e⟩:=open_T h2
   simp only [tqC,List.cons.injEq,and_true]at e
   obtain ⟨rfl,rfl,rfl,rfl⟩:=e
   rw [add_add]at g0 g1 g2 g3
   exact⟨t,ht,g0,g1,g2,g3⟩
  obtain ⟨f,hf⟩:= @choose_lt TQ ⟨⟨0,0,0,0⟩⟩ len _ key
  refine⟨(List.range len).map f,?_,by
   intro t ht
   obtain ⟨i,hi,rfl⟩:=List.mem_map.1 ht
   exact(hf i (List.mem_range.1 hi)).1⟩
  rcases Nat.eq_zero_or_pos len with h0|h0
  ·subst h0
   exact .inl ⟨_,_,rfl,rfl⟩
  ·obtain ⟨b,off,spot⟩:=a
   have hspot:spot=none:=by simpa [Addr.add] using World.cell?_spot (hf 0 h0).2.1
   subst hspot
   refine .inr ⟨b,off,cap,by simp,?_,?_⟩
   ·have h1:=(hf 0 h0).2.1
    exact cell_lt h1
   ·intro j hj i u hu
    have hj':j<len:=by simpa using hj
    obtain ⟨_,g0,g1,g2,g3⟩:=hf j hj'
    simp only [List.getElem_map,List.getElem_range]at hu
    rw [Go.WideShapes.add_plain]at g0 g1 g2 g3
    rw [Nat.add_assoc]
    match i,hu with
    | 0,hu=>simp at hu;subst hu;exact g0
    | 1,hu=>simp at hu;subst hu;exact g1
    | 2,hu=>simp at hu;subst hu;exact g2
    | 3,hu=>simp at hu;subst hu;exact g3
    | n+4,hu=>simp at hu
theorem cellsK:Tryz.prog.cellsOf 25=8:=by kernel_rfl
theorem cellsZ:Tryz.prog.cellsOf 27=2:=by kernel_rfl
theorem list8 {α:Type} (l:List α) (h:(⟨l⟩:Array α).size=8):∃a b c d e f g i,l= [a,b,c,d,e,f,g,i]:=by
 match l,h with
 | [a,b,c,d,e,f,g,i],_=>exact⟨a,b,c,d,e,f,g,i,rfl⟩
theorem len4 {α:Type} (l:List α) (h:l.length=4):∃a b c d,l= [a,b,c,d]:=by
 match l,h with
 | [a,b,c,d],_=>exact⟨a,b,c,d,rfl⟩
theorem len2 {α:Type} (l:List α) (h:l.length=2):∃a b,l= [a,b]:=by
 match l,h with
 | [a,b],_=>exact⟨a,b,rfl⟩
theorem list2 {α:Type} (l:List α) (h:(⟨l⟩:Array α).size=2):∃a b,l= [a,b]:=by
 match l,h with
 | [a,b],_=>exact⟨a,b,rfl⟩
set_option maxRecDepth 100000 in
theorem open_K {H:Type} {enc:TypeId×Value→H} {w:World} {base b0:Nat} {sp:Nat→Bool} {hd:Bool} {v:Value} {d:DataW H} {ps:List MemPlace} (hval:Value.okWide Tryz.prog w .any b0 25 v) (h:DataW.Trod enc Tryz.prog w base sp hd 25 v d ps):
  ∃(n0:Int) (d0:Nat) (n1:Int) (d1:Nat) (n2:Int) (d2:Nat) (n3:Int) (d3:Nat),v=k4V n0 d0 n1 d1 n2 d2 n3 d3∧(i64ok n0∧i64ok n1∧i64ok n2∧i64ok n3)∧d0<4294967296∧d1<4294967296∧d2<4294967296∧d3<4294967296:=by
 obtain ⟨cs,rfl,hsz,_⟩:∃cs,v= .agg cs∧cs.size=Tryz.prog.cellsOf 25∧Row.okWide Tryz.prog w .any b0 25 cs:=by
  simpa [Value.okWide,Tryz.underlying25] using hval
 rw [cellsK]at hsz
 obtain ⟨l⟩:=cs
 obtain ⟨c0,c1,c2,c3,c4,c5,c6,c7,rfl⟩:=list8 l hsz
 obtain ⟨fuel,hf⟩:=h
 obtain ⟨xs,m,rfl,hx,_,hl,hi⟩:=DataW.trod_array Tryz.underlying25 hf
 obtain ⟨x0,x1,x2,x3,rfl⟩:=len4 xs hl
 have h0:=hi 0 (by omega)
 have h1:=hi 1 (by omega)
 have h2:=hi 2 (by omega)
 have h3:=hi 3 (by omega)
 rw [cellsQ]at h0 h1 h2 h3
 obtain ⟨n0,d0,rfl,rfl,p0,q0⟩:=open_Q (y:=x0) (by simpa [Value.cells] using h0)
 obtain ⟨n1,d1,rfl,rfl,p1,q1⟩:=open_Q (y:=x1) (by simpa [Value.cells] using h1)
 obtain ⟨n2,d2,rfl,rfl,p2,q2⟩:=open_Q (y:=x2) (by simpa [Value.cells] using h2)
 obtain ⟨n3,d3,rfl,rfl,p3,q3⟩:=open_Q (y:=x3) (by simpa [Value.cells] using h3)
 exact⟨n0,d0,n1,d1,n2,d2,n3,d3,rfl,⟨p0,p1,p2,p3⟩,q0,q1,q2,q3⟩
set_option maxRecDepth 100000 in
theorem open_Z {H:Type} {enc:TypeId×Value→H} {w:World} {b0:Nat} {sp:Nat→Bool} {hd:Bool} {v:Value} {d:DataW H} {ps:List MemPlace} (hval:Value.okWide Tryz.prog w .any b0 27 v) (h:DataW.Trod enc Tryz.prog w 0 sp hd 27 v d ps):
  ∃(c0 c1:Value) (l0 l1:List TQ),v= .agg #[c0,c1]∧RS tqC 4 w c0 l0∧RS tqC 4 w c1 l1∧(∀t∈l0,t.ok)∧∀t∈l1,t.ok:=by
 obtain ⟨cs,rfl,hsz,_⟩:∃cs,v= .agg cs∧cs.size=Tryz.prog.cellsOf 27∧Row.okWide Tryz.prog w .any b0 27 cs:=by
  simpa [Value.okWide,Tryz.underlying27] using hval
 rw [cellsZ]at hsz
 obtain ⟨l⟩:=cs
 obtain ⟨c0,c1,rfl⟩:=list2 l hsz
 obtain ⟨fuel,hf⟩:=h
 obtain ⟨xs,m,rfl,hx,_,hl,hi⟩:=DataW.trod_array Tryz.underlying27 hf
 obtain ⟨x0,x1,rfl⟩:=len2 xs hl
 have h0:=hi 0 (by omega)
 have h1:=hi 1 (by omega)
 rw [cellsL]at h0 h1
 obtain ⟨l0,p0,q0⟩:=open_L (y:=x0) (by simpa [Value.cells] using h0)
 obtain ⟨l1,p1,q1⟩:=open_L (y:=x1) (by simpa [Value.cells] using h1)
 exact⟨c0,c1,l0,l1,rfl,p0,p1,q0,q1⟩
set_option maxRecDepth 100000 in
theorem open_Q1 {H:Type} {enc:TypeId×Value→H} {w:World} {base b0:Nat} {sp:Nat→Bool} {hd:Bool} {v:Value} {d:DataW H} {ps:List MemPlace} (hval:Value.okWide Tryz.prog w .any b0 24 v) (h:DataW.Trod enc Tryz.prog w base sp hd 24 v d ps):
  ∃(n:Int) (b:Nat),v=qV n b∧i64ok n∧b<4294967296:=by
 obtain ⟨cs,rfl,hsz,_⟩:∃cs,v= .agg cs∧cs.size=Tryz.prog.cellsOf 24∧Row.okWide Tryz.prog w .any b0 24 cs:=by
  simpa [Value.okWide,Tryz.underlying24] using hval
 rw [cellsQ]at hsz
 obtain ⟨l⟩:=cs
 obtain ⟨c0,c1,rfl⟩:=list2 l hsz
 obtain ⟨fuel,hf⟩:=h
 obtain ⟨n,b,rfl,rfl,p,q⟩:=open_Q (by simpa [Value.cells] using hf)
 exact⟨n,b,rfl,p,q⟩
end Go.Proofs.YtmelogdhllhjiaaGreat
