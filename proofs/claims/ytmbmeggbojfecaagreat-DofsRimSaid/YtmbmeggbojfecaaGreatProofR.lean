/-
  For every mesh of cells, order 1 or 2, DofsRim returns true, and its arguments read afterwards as they read before. No condition.
-/
import Derived.Test.YtmbmeggbojfecaaGreatRows
import Derived.Test.YtmbmeggbojfecaaGreatJ50
set_option linter.unusedSimpArgs false
set_option linter.unusedVariables false
namespace Go.Proofs.YtmbmeggbojfecaaGreat
open Go.ChangeShapes Go.WideShapes Go.ChangeAt Go.RowKit
theorem own:ownKnob Tryz.prog.godebug=none:=by kernel_rfl
theorem read_M:Tryz.prog.readableRec 26=true:=by kernel_rfl
theorem read_B:Tryz.prog.readableRec 4=true:=by kernel_rfl
theorem lt_M:26<Tryz.prog.types.size:=of_decide_eq_true (by kernel_rfl)
theorem lt_B:4<Tryz.prog.types.size:=of_decide_eq_true (by kernel_rfl)
set_option maxRecDepth 100000 in
theorem lifted (os:Os) (started:os.Started) (H:Type) (enc:TypeId×Value→H):
  ReturnsInHanded {} Tryz.checked os 5 .any (Rows.dofsRimSpec.pre6 enc Tryz.prog Tryz.f5 Rows.dofsRimRow.domain false) (Rows.dofsRimSpec.post enc Tryz.prog Tryz.f5 false true false false):=by
 refine returnsInHanded_of_change (C:=Tryz.checked) own started (by kernel_rfl) Tryz.func5
  (ChangeSpec.witness6 (enc:=enc) (C:=Tryz.checked) false ⟨#[],#[.agg #[.int .u8 0,.int .u8 0,.slice none 0 0,.int .i8 0,.int .i8 0,.int .i8 0,.int .i8 0,.int .u8 0,.int .u8 0],.bool false],[]⟩ 8 (by kernel_rfl) (by kernel_rfl) (by kernel_rfl) (by kernel_rfl)) ?_
 intro W base args ds gs before hval0 hW _ _
 have hval:∀(j:Nat) t v,Tryz.f5.params[j]? =some t→args[j]? =some v→Value.okWide Tryz.prog W .any base t v:=hval0
 have hW':=hW
 obtain ⟨p,q,hA0,hV,rfl,_,_⟩:=hW
 have hA:DataW.TrodAll enc Tryz.prog W 0 (fun _=>true) true Tryz.f5.params.toList args.toList ds p:=hA0
 rw [Tryz.params5]at hA hval
 obtain ⟨v0,v1,e0,e1,g0,g1,rfl,rfl,rfl,h0,h1⟩:=trodAll_two hA
 obtain ⟨rfl,rfl⟩:=trodVars_none hV
 obtain ⟨x,c,rfl,hx,hS⟩:=open_M (hval 0 26 v0 rfl rfl) h0
 obtain ⟨two,rfl⟩:∃two,v1= .bool two:=by
  have hv:=hval 1 4 v1 rfl rfl
  cases v1<;>simp [Value.okWide,Tryz.underlying4,Cell.okWide,Cell.ok]at hv
  exact⟨_,rfl⟩
 clear hA0 hval0
 simp only [List.append_nil]at hW'
 refine(rim_true x hx c two W hS).mono fun e W' ⟨he,hg⟩=>?_
 subst he
 have a0:=again_B hg read_M lt_M h0
 have a1:=again_B hg read_B lt_B h1
 refine⟨_,rfl,[e0,e1],[],_,[],_,[],hW',trodAll_mk1 (shut_bool Tryz.underlying4 _),⟨_,_,a0,⟨_,_,a1,rfl,rfl⟩,rfl⟩,rfl,kept_B hg _,fun h=>by cases h⟩
theorem rim_holds:Rows.DofsRimSaid:=
 OpenClaim.holds_of_wide 5 Tryz.f5 rfl rfl rfl rfl rfl rfl rfl ⟨rfl,rfl,rfl,rfl,rfl⟩ rfl rfl rfl rfl rfl (by kernel_rfl) Tryz.func5 (by kernel_rfl)
  (of_decide_eq_true (by kernel_rfl)) (by unfold Func.isWrapper;first|(rw [if_pos (by decide+kernel)];kernel_rfl)|(rw [if_neg (by decide+kernel)];exact⟨rfl,rfl⟩))
  (fun os started H enc _=>lifted os started H enc)
end Go.Proofs.YtmbmeggbojfecaaGreat
