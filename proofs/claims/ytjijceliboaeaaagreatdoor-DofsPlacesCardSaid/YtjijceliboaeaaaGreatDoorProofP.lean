/-
  For every mesh of cells, order 1 or 2, DofsPlaces returns true, and its arguments read afterwards as they read before. The package variable of shapes that it reads holds what the program's text lays in it: the card ties that. No other condition.
-/
import Derived.Test.YtjijceliboaeaaaGreatDoorRows
import Derived.Test.YtjijceliboaeaaaGreatDoorCards
import Derived.Test.YtjijceliboaeaaaGreatDoorTie
import Derived.Test.YtjijceliboaeaaaGreatDoorJ48
import Derived.LaidMore
import Derived.Stop.Joined
import Derived.SevenTiedAt
set_option linter.unusedSimpArgs false
set_option linter.unusedVariables false
namespace Go.Proofs.YtjijceliboaeaaaGreatDoor
open Go.ChangeShapes Go.WideShapes Go.ChangeAt Go.RowKit
theorem own:ownKnob Tryz.prog.godebug=none:=by kernel_rfl
theorem read_M:Tryz.prog.readableRec 26=true:=by kernel_rfl
theorem read_B:Tryz.prog.readableRec 4=true:=by kernel_rfl
theorem lt_M:26<Tryz.prog.types.size:=of_decide_eq_true (by kernel_rfl)
theorem lt_B:4<Tryz.prog.types.size:=of_decide_eq_true (by kernel_rfl)
theorem gSides:Tryz.prog.globalNamed "gusset/shapes.sides" =some 0:=by kernel_rfl
theorem tSides:(Tryz.prog.globals[0]?).map (·.type)=some 97:=by kernel_rfl
theorem cellsS:Tryz.prog.cellsOf 97=6:=by kernel_rfl
theorem cells2:Tryz.prog.cellsOf 85=2:=by kernel_rfl
theorem cells1:Tryz.prog.cellsOf 3=1:=by kernel_rfl
abbrev laidL:List (String×DataW Unit):= [("gusset/shapes.sides",Rows.laid_gusset_shapes_sides)]
theorem door_met (os:Os) (args:Array Value):laidMetH Tryz.prog laidL ((World.doorLaid Tryz.prog 400 os).forCall (fun _ _=>0) ⟨#[],args,[]⟩).memory:=
 laidMetH_of_parts3 (fuel:=8) (laidMet_of_run' 8 (by kernel_rfl) (by kernel_rfl)) (by kernel_rfl) (by kernel_rfl)
set_option maxRecDepth 100000 in
theorem open_pr {H:Type} {enc:TypeId×Value→H} {w:World} {base m:Nat} {sp:Nat→Bool} {hd:Bool} {c0 c1:Value} {x:DataW H×List MemPlace} {a b:Int} (h:DataW.trod enc Tryz.prog w base sp hd m 85 [c0,c1]=some x) (hx:x.1= .agg [.lit (.int .i64 a),.lit (.int .i64 b)]):c0= .int .i64 a∧c1= .int .i64 b:=by
 obtain ⟨ys,m',rfl,hy,_,hl,hi⟩:=DataW.trod_array Tryz.underlying85 h
 obtain ⟨y0,y1,rfl⟩:∃y0 y1,ys= [y0,y1]:=by
  match ys,hl with
  | [a,b],_=>exact⟨a,b,rfl⟩
 subst hy
 have h0:=hi 0 (by omega)
 have h1:=hi 1 (by omega)
 rw [cells1]at h0 h1
 obtain ⟨n0,e0,f0,_⟩:=DataW.trod_int (x:=y0) Tryz.underlying3 h0
 obtain ⟨n1,e1,f1,_⟩:=DataW.trod_int (x:=y1) Tryz.underlying3 h1
 subst f0 f1
 have e0': [c0]= [Value.int .i64 n0]:=e0
 have e1': [c1]= [Value.int .i64 n1]:=e1
 simp only [List.map_cons,List.map_nil,DataW.agg.injEq,List.cons.injEq,DataW.lit.injEq,Lit.int.injEq,true_and,and_true]at hx e0' e1'
 exact⟨by rw [e0',hx.1],by rw [e1',hx.2]⟩
set_option maxRecDepth 100000 in
theorem of_laid {W:World} (h:laidMetH Tryz.prog laidL W):SdW W:=by
 rw [MakeChecks.laidMetH_plain _ _ _ (by kernel_rfl)]at h
 obtain ⟨ps,⟨g0,t0,cs0,f0,p0,q0,hg0,ht0,hv0,hd0,_,_⟩,_,_⟩:=h
 obtain rfl:=Option.some.inj (gSides.symm.trans hg0)
 obtain rfl:=Option.some.inj (tSides.symm.trans ht0)
 have hc:=fun k=>World.var?_cell hg0 hv0 k
 obtain ⟨l⟩:=cs0
 obtain ⟨xs,m,rfl,hx,hl6,hn3,hel⟩:=DataW.trod_array Tryz.underlying97 hd0
 rw [cellsS]at hl6
 obtain ⟨c0,c1,c2,c3,c4,c5,rfl⟩:∃c0 c1 c2 c3 c4 c5,l= [c0,c1,c2,c3,c4,c5]:=by
  match l,hl6 with
  | [a,b,c,d,e,f],_=>exact⟨a,b,c,d,e,f,rfl⟩
 obtain ⟨x0,x1,x2,rfl⟩:∃x0 x1 x2,xs= [x0,x1,x2]:=by
  match xs,hn3 with
  | [a,b,c],_=>exact⟨a,b,c,rfl⟩
 have hx1:=congrArg Prod.fst hx
 unfold Rows.laid_gusset_shapes_sides at hx1
 simp only [List.map_cons,List.map_nil,DataW.agg.injEq,List.cons.injEq,and_true]at hx1
 obtain ⟨q0,q1,q2⟩:=hx1
 have h0:=hel 0 (by omega)
 have h1:=hel 1 (by omega)
 have h2:=hel 2 (by omega)
 rw [cells2]at h0 h1 h2
 obtain ⟨r0,r1⟩:=open_pr (x:=x0) (c0:=c0) (c1:=c1) h0 q0.symm
 obtain ⟨r2,r3⟩:=open_pr (x:=x1) (c0:=c2) (c1:=c3) h1 q1.symm
 obtain ⟨r4,r5⟩:=open_pr (x:=x2) (c0:=c4) (c1:=c5) h2 q2.symm
 subst r0 r1 r2 r3 r4 r5
 refine⟨hc 0,hc 1,hc 2,hc 3,hc 4,hc 5,?_⟩
 rcases Nat.lt_or_ge 0 W.heap.size with h|h
 ·exact h
 ·have:=hc 0
  simp [World.cell?,Array.getElem?_eq_none h]at this
set_option maxRecDepth 100000 in
theorem lifted (os:Os) (started:os.Started) (H:Type) (enc:TypeId×Value→H):
  ReturnsInHanded {} Tryz.checked os 3 .any (fun w args=>(Rows.dofsPlacesSpec.pre enc Tryz.prog Tryz.f3 [] false w args∧laidMetH Tryz.prog laidL w)∧sizedMet enc Tryz.prog Tryz.f3 (OpenSpec.ofChange Rows.dofsPlacesSpec) false w args)
   (Rows.dofsPlacesSpec.post enc Tryz.prog Tryz.f3 false true false false):=by
 refine returnsInHanded_of_change_and (C:=Tryz.checked) (X:=fun w _=>laidMetH Tryz.prog laidL w) (fun _ _ _ hh h=>h.of_heap hh) own started (by kernel_rfl) Tryz.func3
  (ChangeSpec.witness_shaped (enc:=enc) (C:=Tryz.checked) (os:=os) (X:=fun w _=>laidMetH Tryz.prog laidL w) false (World.doorLaid Tryz.prog 400 os) #[.agg #[.int .u8 0,.int .u8 0,.slice none 0 0,.int .i8 0,.int .i8 0,.int .i8 0,.int .i8 0,.int .u8 0,.int .u8 0],.bool false] 8 rfl (World.shaped_of_RefB (by kernel_rfl) (by kernel_rfl)) (by kernel_rfl) (by kernel_rfl) (by kernel_rfl) (door_met os _)) ?_
 intro W base args ds gs before hval0 hW _ _ hL _
 have hval:∀(j:Nat) t v,Tryz.f3.params[j]? =some t→args[j]? =some v→Value.okWide Tryz.prog W .any base t v:=hval0
 have hW':=hW
 obtain ⟨p,q,hA0,hV,rfl,_,_⟩:=hW
 have hA:DataW.TrodAll enc Tryz.prog W 0 (fun _=>true) true Tryz.f3.params.toList args.toList ds p:=hA0
 rw [Tryz.params3]at hA hval
 obtain ⟨v0,v1,e0,e1,g0,g1,rfl,rfl,rfl,h0,h1⟩:=trodAll_two hA
 obtain ⟨rfl,rfl⟩:=trodVars_none hV
 obtain ⟨x,c,rfl,hx,hS⟩:=open_M (hval 0 26 v0 rfl rfl) h0
 obtain ⟨two,rfl⟩:∃two,v1= .bool two:=by
  have hv:=hval 1 4 v1 rfl rfl
  cases v1<;>simp [Value.okWide,Tryz.underlying4,Cell.okWide,Cell.ok]at hv
  exact⟨_,rfl⟩
 have hSd:=of_laid hL
 clear hA0 hval0
 simp only [List.append_nil]at hW'
 refine(places_true x hx c two W hS hSd).mono fun e W' ⟨he,hg⟩=>?_
 subst he
 have a0:=again_B hg read_M lt_M h0
 have a1:=again_B hg read_B lt_B h1
 refine⟨_,rfl,[e0,e1],[],_,[],_,[],hW',trodAll_mk1 (shut_bool Tryz.underlying4 _),⟨_,_,a0,⟨_,_,a1,rfl,rfl⟩,rfl⟩,rfl,kept_B hg _,fun h=>by cases h⟩
theorem places_row:Rows.DofsPlacesSaid:=
 OpenClaim.holds_of_wide 3 Tryz.f3 rfl rfl rfl rfl rfl rfl rfl ⟨rfl,rfl,rfl,rfl,rfl⟩ rfl rfl rfl rfl rfl (by kernel_rfl) Tryz.func3 (by kernel_rfl)
  (of_decide_eq_true (by kernel_rfl)) (by unfold Func.isWrapper;first|(rw [if_pos (by decide+kernel)];kernel_rfl)|(rw [if_neg (by decide+kernel)];exact⟨rfl,rfl⟩))
  (fun os started H enc _=>lifted os started H enc)
theorem places_holds:Rows.DofsPlacesCardSaid:=
 Claim7.holds_tied_plain_at .later [] [.data] true (true, "f83bc967ec817d3ded8e63497ff8ad18f3e2e44206ec4552cfe496a4736a6a1a") false
  places_row (fun _ h=>by cases h) (by kernel_rfl) (fun _ h=>by cases h) dofsPlaces_row_tie rfl ⟨rfl,rfl⟩ (by kernel_rfl) rfl
  (fun f fn hf hfn=>by
   obtain rfl:f=3:=Option.some.inj ((show Tryz.prog.funcNamed "gusset/gussetlaw35.DofsPlaces" =some 3 by kernel_rfl).symm.trans hf) |>.symm
   obtain rfl:fn=Tryz.f3:=(Option.some.inj (Tryz.func3.symm.trans hfn)).symm
   exact⟨by kernel_rfl,fun j t ht=>by
    rw [Tryz.params3]at ht
    have hm:t∈ [26,4]:=by simpa using Array.mem_of_getElem? ht
    have hall:([26,4].all fun u=> !Tryz.prog.wantsStandIn u)=true:=by kernel_rfl
    exact(show Tryz.prog.wantsStandIn t=false by simpa using List.all_eq_true.1 hall t hm)⟩)
  (by kernel_rfl)
end Go.Proofs.YtjijceliboaeaaaGreatDoor
