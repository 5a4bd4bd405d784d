/-
  Part 44 of the proof: LawS.
-/
import Derived.Test.YtjijceliboaeaaaGreatDoorJ42
import Derived.Test.YtjijceliboaeaaaGreatDoorJ43
set_option linter.unusedSimpArgs false
set_option linter.unusedVariables false
namespace Go.Proofs.YtjijceliboaeaaaGreatDoor
open Go.RowKit Gus Go.Maps
def ordN (two:Bool):Nat:=if two then 2 else 1
set_option maxRecDepth 20000 in
set_option maxHeartbeats 4000000 in
theorem law_Order (two:Bool) (w:World):Calls Tryz.prog 6 #[.bool two] w (Ret w (.int .i64 (ordN two:Int))):=by
 cases two
 all_goals
  go_enter Tryz.func6,Tryz.ntmps6
  go_wp2
  go_ret
  exact⟨rfl,Gr.refl _ _⟩
theorem TabM.at {w:World} {B o:Nat} {m:Msh} {x y z:Value} (h:TabM w B o m x y z):∃(ax ay az:Option Addr) (cx cy cz:Nat),x= .slice ax m.tris.length cx∧y= .slice ay (numM o m) cy∧z= .slice az (esM m.tris).length cz:=by
 obtain ⟨⟨rs,hS,hl,_⟩,hy,hz⟩:=h
 obtain ⟨ax,cx,rfl⟩:=hS.at
 obtain ⟨ay,cy,rfl⟩:=hy.at
 obtain ⟨az,cz,rfl⟩:=hz.at
 refine⟨ax,ay,az,cx,cy,cz,?_,?_,?_⟩
 ·rw [hl,List.length_map]
 ·rw [atM_len]
 ·rw [List.length_map]
theorem RWr.row {w:World} {B:Nat} {v:Value} {l:List (List Nat)} (h:RWr w B v l):∃(a:Option Addr) (c:Nat),v= .slice a l.length c∧(l≠ []→∃gx,a=some ⟨gx,0,none⟩∧B≤gx∧gx<w.heap.size∧∀i (hi:i<l.length),∃g,w.cell? ⟨gx,i,none⟩=some (.slice (some ⟨g,0,none⟩) l[i].length l[i].length)∧B≤g∧g<w.heap.size∧∀j (hj:j<l[i].length),w.cell? ⟨g,j,none⟩=some (.int .i64 (l[i][j]:Int))):=by
 obtain ⟨rs,hS,hl,hr⟩:=h
 obtain ⟨a,c,e⟩:=hS.at
 refine⟨a,c,by rw [e,hl],fun hne=>?_⟩
 obtain ⟨gx,cx,e2,hB,hc,hm,hsh,hR⟩:=hS.block (by intro e3;rw [e3]at hl;exact hne (List.eq_nil_of_length_eq_zero (by simpa using hl.symm)))
 rw [e]at e2
 injection e2 with e2 _ _
 refine⟨gx,e2,hB,hsh.lt,fun i hi=>?_⟩
 have hi2:i<rs.length:=by omega
 obtain ⟨p1,p2,p3,p4⟩:=hr i rs[i] l[i] (List.getElem?_eq_getElem hi2) (List.getElem?_eq_getElem hi)
 refine⟨rs[i].1,?_,p2,p3.lt,fun j hj=>by have:=p4 j hj 0 _ rfl;simpa using this⟩
 ·have:=hR i hi2 0 _ rfl
  rw [←p1]
  simpa using this
theorem TabM.kp {w w':World} {row:Option Nat} {B o:Nat} {m:Msh} {x y z:Value} (h:TabM w B o m x y z) (k:Kp w w' row) (hr:∀g,row=some g→g<B):TabM w' B o m x y z:=
 ⟨h.1.kp k hr,SR.kp h.2.1 k (fun g e e2=>by have:=(h.2.1.own_lt e).1;have:=hr g e2.symm;omega),SR.kp h.2.2 k (fun g e e2=>by have:=(h.2.2.own_lt e).1;have:=hr g e2.symm;omega)⟩
end Go.Proofs.YtjijceliboaeaaaGreatDoor
