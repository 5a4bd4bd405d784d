/-
  Part 41 of the proof: Chk Last.
-/
import Derived.Test.YtmelogdhllhjiaaGreatJ24
import Derived.Test.YtmelogdhllhjiaaGreatJ33
import Derived.Test.YtmelogdhllhjiaaGreatJ36
import Derived.Test.YtmelogdhllhjiaaGreatJ28
import Derived.Test.YtmelogdhllhjiaaGreatJ38
import Derived.Test.YtmelogdhllhjiaaGreatJ39
import Derived.Test.YtmelogdhllhjiaaGreatJ40
set_option linter.unusedSimpArgs false
set_option linter.unusedVariables false
namespace Go.Proofs.YtmelogdhllhjiaaGreat
open Go.RowKit Gus
structure PLd (w:World) (v:Value) (l:List T):Prop where
 pl:PL w 0 v l
 ok:∀t∈l,t.ok
 tot_:tot l≤100000000000
 deg:degL (gat l)≤8
theorem PLd.gr {w w':World} {v:Value} {l:List T} (h:PLd w v l) (hg:Gr w.heap.size w w'):PLd w' v l:=⟨h.pl.gr hg,h.ok,h.tot_,h.deg⟩
theorem pr_Check_sq (fixed:Bool) (p:Prb) (u g0 g1:Value) (lf lu l0 l1:List T) (w:World) (hM:MS w 0 p.vp p.vt p.vs ⟨sqP,sqT,rmS⟩) (ho:p.order=1) (ha:p.a=1) (hb:p.b=0) (hc:p.c=1) (hq:p.q=0) (hF:PLd w p.f lf)
  (hG:SR gvC 5 71 w 0 p.gv [⟨0,fixed,u,g0,g1⟩]) (hu:PLd w u lu) (h0:PLd w g0 l0) (h1:PLd w g1 l1):
  Calls Tryz.prog 40 #[prV p] w (Ret w (.int .i64 (if fixed then 0 else 6))):=by
 obtain ⟨au,cu,rfl⟩:=hu.pl.at
 obtain ⟨a0,c0,rfl⟩:=h0.pl.at
 obtain ⟨a1,c1,rfl⟩:=h1.pl.at
 refine Check_raw p w (fun W _=>?_) (fun W hW=>?_) (fun W hW=>?_) (fun W hW=>?_) (fun W hW=>?_)
 ·refine pr_numbers p (.inl ho) ?_ (by rw [hq];decide) ?_ ?_ ?_ W
  ·rw [ha,hb,hc];decide+kernel
  ·rw [ha,hw_one];omega
  ·rw [hb,hw_zero];omega
  ·rw [hc,hw_one];omega
 ·exact pr_source p lf W (hF.pl.gr hW) hF.ok hF.tot_ hF.deg
 ·refine given_raw p fixed au a0 a1 lu.length cu l0.length c0 l1.length c1 lu l0 l1 W (hG.gr hW) (fun W' v B hS hg=>?_)
  have hW':Gr w.heap.size w W':=hW.trans (hg.mono hW.size)
  refine pr_degrees _ v B 41 W' hS (fun x hx=>?_) (fun x hx=>?_)
  ·simp only [List.mem_cons,List.not_mem_nil,or_false]at hx
   rcases hx with rfl|rfl|rfl
   ·exact⟨hu.pl.gr hW',hu.ok,hu.tot_⟩
   ·exact⟨h0.pl.gr hW',h0.ok,h0.tot_⟩
   ·exact⟨h1.pl.gr hW',h1.ok,h1.tot_⟩
  ·simp only [List.mem_cons,List.not_mem_nil,or_false]at hx
   rcases hx with rfl|rfl|rfl
   ·exact hu.deg
   ·exact h0.deg
   ·exact h1.deg
 ·exact looks1_raw p W (fun W' hW'=>sq_Check _ _ _ W' ((hM.gr hW).gr hW'))
 ·obtain ⟨gt,ct,ht,_⟩:=hM.2.1.block (by simp [sqT])
  obtain ⟨gs,cs,hs,_⟩:=hM.2.2.block (by simp [rmS])
  obtain ⟨vp,vt,vs,order,a,b,c,q,f,gv⟩:=p
  simp only at *
  subst ht hs ho ha hb hc hq
  have hFi:∀W',Gr W.heap.size W W'→Calls Tryz.prog 143 #[prV ⟨vp,.slice (some ⟨gt,0,none⟩) 2 ct,.slice (some ⟨gs,0,none⟩) 4 cs,1,1,0,1,0,f,gv⟩,.int .i64 0] W' (fun e w'=>e= .returned (.tuple #[.agg #[.int .i64 0,.bool fixed,.slice au lu.length cu,.slice a0 l0.length c0,.slice a1 l1.length c1],.bool true])∧Gr W'.heap.size W' w'):=fun W' hW'=>
   Find_some ⟨vp,.slice (some ⟨gt,0,none⟩) 2 ct,.slice (some ⟨gs,0,none⟩) 4 cs,1,1,0,1,0,f,gv⟩ [⟨0,fixed,.slice au lu.length cu,.slice a0 l0.length c0,.slice a1 l1.length c1⟩] 0 0 _ W' ((hG.gr hW).gr hW') (by simp) rfl (by simp [idxP]) ⟨_,(_,_),rfl⟩ ⟨_,(_,_),rfl⟩ ⟨_,(_,_),rfl⟩
  cases fixed
  ·exact held_f vp gt ct gs cs 1 1 0 1 f gv au a0 a1 _ _ _ _ _ _ W (hM.gr hW) hFi
  ·exact held_t vp gt ct gs cs 1 1 0 1 f gv au a0 a1 _ _ _ _ _ _ W (hM.gr hW) hFi
end Go.Proofs.YtmelogdhllhjiaaGreat
namespace Go.Proofs.YtmelogdhllhjiaaGreat
open Go.RowKit Gus
theorem lt_big {a b k:Nat} (h:a≤b) (hk:b≤k):a≤k:=Nat.le_trans h hk
theorem src_b (l:List T) (q:Rat) (h:tot l≤1000) (hq:hw q≤5):tot l*(72*(hw 1+hw 0+hw 1+hw q+4))≤100000000000:=by
 have h1:=hw_r1
 have h0:=hw_r0
 exact Nat.le_trans (Nat.mul_le_mul h (show 72*(hw 1+hw 0+hw 1+hw q+4)≤1728 by omega)) (by decide)
theorem flow_b (l:List T) (a b c:Rat) (h:tot l≤1000) (h1:hw a≤5) (h2:hw b≤5) (h3:hw c≤5):tot l*(3*(hw a+hw b+hw c+4))≤100000000000:=
 Nat.le_trans (Nat.mul_le_mul h (show 3*(hw a+hw b+hw c+4)≤57 by omega)) (by decide)
theorem sc_b (l:List T) (a:Rat) (h:tot l≤1000) (h1:hw a≤5):tot l*(hw a+2)≤100000000000:=Nat.le_trans (Nat.mul_le_mul h (show hw a+2≤7 by omega)) (by decide)
theorem sq_src (q:Rat) (hq:hw q≤5) (v:Value) (W:World) (h:PL W 0 v uL):Calls Tryz.prog 8 #[k3V 1 0 1,fracV q,v] W (RetP W (sourceL 1 0 1 q uL)):=pr_Source 1 0 1 q uL v W h ok_uL (src_b uL q tot_uL hq)
theorem pl_nil (w:World):PLd w (.slice none 0 0) []:=⟨SL.nil,by simp,by decide+kernel,deg_nil⟩
theorem sq_made_t (W:World) (a b c v:Value) (fb:Nat) (hM:MS W 0 a b c ⟨sqP,sqT,rmS⟩) (hU:PL W 0 v uL) (hV:VB W fb [.int .i64 0]):
  Calls Tryz.prog 18 #[.agg #[a,b,c],.int .i64 1,k3V 1 0 1,fracV 0,v,.slice (some ⟨fb,0,none⟩) 1 1] W (fun e w'=> ∃(p:Prb) (u:Value),e= .returned (.tuple #[prV p,.int .i64 0])∧(∀v∈prC p,v.oneCell'=true)∧PL w' W.heap.size p.f sL∧SR gvC 5 71 w' W.heap.size p.gv [⟨0,true,u,.slice none 0 0,.slice none 0 0⟩]∧Gr W.heap.size W w'):=
 made_t 1 0 1 0 uL sL uuL a b c v fb W hM hU hV (fun W' hg=>sq_src 0 hw_r0 v W' (hU.gr hg))
  (fun W' hg=>po_Add uL [] v (.slice none 0 0) W' (hU.gr hg) SL.nil ok_uL (by simp) (Nat.le_trans (Nat.add_le_add tot_uL (show tot []≤0 by decide+kernel)) (by decide)))
  (fun W' p u h1 h2 h3 h4 h5 h6 h7 h8 h9=>by
   have h:=pr_Check_sq true p u (.slice none 0 0) (.slice none 0 0) sL uuL [] [] W' h1 h2 h3 h4 h5 h6 ⟨h7,ok_sL,lt_big tot_sL (by decide),deg_sL⟩ h8 ⟨h9,ok_uuL,lt_big tot_uuL (by decide),deg_uuL⟩ (pl_nil W') (pl_nil W')
   simpa using h)
theorem sq_made_f (W:World) (a b c v:Value) (hM:MS W 0 a b c ⟨sqP,sqT,rmS⟩) (hU:PL W 0 v uL):
  Calls Tryz.prog 18 #[.agg #[a,b,c],.int .i64 1,k3V 1 0 1,fracV 0,v,.slice none 0 0] W (fun e w'=>e= .returned (.tuple #[.agg #[.slice none 0 0,.slice none 0 0,.slice none 0 0,.int .i64 0,.int .u64 0,.string ⟨#[]⟩,.bool false,.int .u64 0,.string ⟨#[]⟩,.int .u64 0,.string ⟨#[]⟩,.bool false,.int .u64 0,.string ⟨#[]⟩,.int .u64 0,.string ⟨#[]⟩,.bool false,.int .u64 0,.string ⟨#[]⟩,.int .u64 0,.string ⟨#[]⟩,.bool false,.int .u64 0,.string ⟨#[]⟩,.slice none 0 0,.slice none 0 0],.int .i64 6])∧Gr W.heap.size W w'):=
 made_f 1 0 1 0 uL sL k0L k1L a b c v W hM hU (fun W' hg=>sq_src 0 hw_r0 v W' (hU.gr hg))
  (fun W' hg=>pr_Flow 1 0 1 uL v W' (hU.gr hg) ok_uL (flow_b uL 1 0 1 tot_uL hw_r1 hw_r0 hw_r1))
  (fun W' p g0 g1 h1 h2 h3 h4 h5 h6 h7 h8 h9 h10=>by
   have h:=pr_Check_sq false p (.slice none 0 0) g0 g1 sL [] k0L k1L W' h1 h2 h3 h4 h5 h6 ⟨h7,ok_sL,lt_big tot_sL (by decide),deg_sL⟩ h8 (pl_nil W') ⟨h9,ok_k0L,lt_big tot_k0L (by decide),deg_k0L⟩ ⟨h10,ok_k1L,lt_big tot_k1L (by decide),deg_k1L⟩
   simpa using h)
theorem sq_square (W:World):Calls Tryz.prog 19 #[] W (fun e w'=> ∃a b c,e= .returned (.agg #[a,b,c])∧MS w' 0 a b c ⟨sqP,sqT,rmS⟩∧Gr W.heap.size W w'):=
 square_mesh (p0:=⟨0,0⟩) (p1:=⟨1,0⟩) (p2:=⟨1,1⟩) (p3:=⟨0,1⟩) rmS (fun w=>pt_Int 0 0 w (by omega) (by omega) (by omega) (by omega)) (fun w=>pt_Int 1 0 w (by omega) (by omega) (by omega) (by omega)) (fun w=>pt_Int 1 1 w (by omega) (by omega) (by omega) (by omega)) (fun w=>pt_Int 0 1 w (by omega) (by omega) (by omega) (by omega))
  (fun W vp vt hP hT=>ms_Rim sqP rfl vp vt W hP hT) W
theorem same_of {l m:List T} (ho:okL l) (hp:okL m) (ht:tot l≤1000) (hu:tot m≤1000) (h:gat l=gat m) (W:World) (v u:Value) (h1:PL W 0 v l) (h2:PL W 0 u m):Calls Tryz.prog 14 #[v,u] W (Ret W (.bool true)):=by
 have h3:=po_Same l m v u W h1 h2 ho hp (lt_big ht (by decide)) (lt_big hu (by decide))
 rwa [decide_eq_true h]at h3
theorem add_of {l m:List T} (ho:okL l) (hp:okL m) (ht:tot l≤1000) (hu:tot m≤1000) (W:World) (v u:Value) (h1:PL W 0 v l) (h2:PL W 0 u m):Calls Tryz.prog 9 #[v,u] W (RetP W (addL l m)):=
 po_Add l m v u W h1 h2 ho hp (Nat.le_trans (Nat.add_le_add ht hu) (by decide))
theorem lives_true (w:World):Calls Tryz.prog 4 #[] w (Ret w (.bool true)):=
 lives_raw 1 2 3 (-4) uL xyL h0L h1L sL s1L cL xL yL y2L x3L a1L a2L a3L
  (fun w=>fr_Int 1 w (by omega) (by omega)) (fun w=>fr_Int 2 w (by omega) (by omega)) (fun w=>fr_Int 3 w (by omega) (by omega)) (fun w=>fr_Int (-4) w (by omega) (by omega))
  (fun W v h=>po_Of uT v W h ok_uT (lt_big tot_uT (by decide))) (fun W v h=>po_Of xyT v W h ok_xyT (lt_big tot_xyT (by decide)))
  (fun W v h=>pr_Flow 2 1 3 xyL v W h ok_xyL (flow_b xyL 2 1 3 tot_xyL hw_r2 hw_r1 hw_r3)) sq_square
  (fun W a b c v fb h1 h2 h3=>sq_made_t W a b c v fb h1 h2 h3) (fun W a b c v h1 h2=>sq_made_f W a b c v h1 h2)
  (fun W v h=>sq_src 0 hw_r0 v W h) (fun W v h=>sq_src 1 hw_r1 v W h) (fun W=>po_Const (-4) W (by have:=hw_r4;omega)) po_X po_Y
  (fun W v h=>po_Scale 2 yL v W h ok_yL (sc_b yL 2 tot_yL hw_r2)) (fun W v h=>po_Scale 3 xL v W h ok_xL (sc_b xL 3 tot_xL hw_r3))
  (add_of ok_sL ok_uL tot_sL tot_uL) (add_of ok_y2L ok_xL tot_y2L tot_xL) (add_of ok_yL ok_x3L tot_yL tot_x3L)
  (same_of ok_sL ok_cL tot_sL tot_cL same_1) (same_of ok_s1L ok_a1L tot_s1L tot_a1L same_2) (same_of ok_h0L ok_a2L tot_h0L tot_a2L same_3) (same_of ok_h1L ok_a3L tot_h1L tot_a3L same_4) (same_of ok_sL ok_sL tot_sL tot_sL rfl) w
end Go.Proofs.YtmelogdhllhjiaaGreat
