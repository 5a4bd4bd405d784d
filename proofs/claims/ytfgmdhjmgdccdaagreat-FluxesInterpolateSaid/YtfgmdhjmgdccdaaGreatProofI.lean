/-
  For every mesh of cells, every two lists of raw terms and every three numbers, FluxesInterpolate returns true, and its arguments read afterwards as they read before. No condition.
-/
import Derived.Test.YtfgmdhjmgdccdaaGreatRows
import Derived.Test.YtfgmdhjmgdccdaaGreatJ50
set_option linter.unusedSimpArgs false
set_option linter.unusedVariables false
set_option maxHeartbeats 8000000
namespace Go.Proofs.YtfgmdhjmgdccdaaGreat
open Go.ChangeShapes Go.WideShapes Go.ChangeAt Go.RowKit
theorem own:ownKnob Tryz.prog.godebug=none:=by kernel_rfl
theorem read_M:Tryz.prog.readableRec 26=true:=by kernel_rfl
theorem read_Z:Tryz.prog.readableRec 77=true:=by kernel_rfl
theorem read_K:Tryz.prog.readableRec 81=true:=by kernel_rfl
theorem lt_M:26<Tryz.prog.types.size:=of_decide_eq_true (by kernel_rfl)
theorem lt_Z:77<Tryz.prog.types.size:=of_decide_eq_true (by kernel_rfl)
theorem lt_K:81<Tryz.prog.types.size:=of_decide_eq_true (by kernel_rfl)
set_option maxRecDepth 100000 in
theorem lifted (os:Os) (started:os.Started) (H:Type) (enc:TypeId×Value→H):
  ReturnsInHanded {} Tryz.checked os 4 .any (Rows.fluxesInterpolateSpec.pre6 enc Tryz.prog Tryz.f4 Rows.fluxesInterpolateRow.domain false) (Rows.fluxesInterpolateSpec.post enc Tryz.prog Tryz.f4 false true false false):=by
 refine returnsInHanded_of_change (C:=Tryz.checked) own started (by kernel_rfl) Tryz.func4
  (ChangeSpec.witness6 (enc:=enc) (C:=Tryz.checked) false ⟨#[],#[.agg #[.int .u8 0,.int .u8 0,.slice none 0 0,.int .i8 0,.int .i8 0,.int .i8 0,.int .i8 0,.int .u8 0,.int .u8 0],.agg #[.slice none 0 0,.slice none 0 0],.agg #[.int .i64 0,.int .u32 0,.int .i64 0,.int .u32 0,.int .i64 0,.int .u32 0]],[]⟩ 8 (by kernel_rfl) (by kernel_rfl) (by kernel_rfl) (by kernel_rfl)) ?_
 intro W base args ds gs before hval0 hW _ _
 have hval:∀(j:Nat) t v,Tryz.f4.params[j]? =some t→args[j]? =some v→Value.okWide Tryz.prog W .any base t v:=hval0
 have hW':=hW
 obtain ⟨p,q,hA0,hV,rfl,_,_⟩:=hW
 have hA:DataW.TrodAll enc Tryz.prog W 0 (fun _=>true) true Tryz.f4.params.toList args.toList ds p:=hA0
 rw [Tryz.params4]at hA hval
 obtain ⟨v0,v1,v2,e0,e1,e2,g0,g1,g2,rfl,rfl,rfl,h0,h1,h2⟩:=trodAll_three hA
 obtain ⟨rfl,rfl⟩:=trodVars_none hV
 obtain ⟨x,c,rfl,hx,hS⟩:=open_M (hval 0 26 v0 rfl rfl) h0
 obtain ⟨c0,c1,l0,l1,rfl,r0,r1,o0,o1⟩:=open_Z (hval 1 77 v1 rfl rfl) h1
 obtain ⟨n0,d0,n1,d1,n2,d2,rfl,hk,he⟩:=open_K (hval 2 81 v2 rfl rfl) h2
 clear hA0 hval0
 simp only [List.append_nil]at hW'
 refine(interp_true x hx c c0 c1 l0 l1 o0 o1 n0 n1 n2 d0 d1 d2 hk he W hS r0 r1).mono fun e W' ⟨he,hg0⟩=>?_
 have hg:=hg0.below
 subst he
 have a0:=again_B hg read_M lt_M h0
 have a1:=again_B hg read_Z lt_Z h1
 have a2:=again_B hg read_K lt_K h2
 refine⟨_,rfl,[e0,e1,e2],[],_,[],_,[],hW',trodAll_mk1 (shut_bool Tryz.underlying4 _),⟨_,_,a0,⟨_,_,a1,⟨_,_,a2,rfl,rfl⟩,rfl⟩,rfl⟩,rfl,kept_B hg _,fun h=>by cases h⟩
theorem interpolate_holds:Rows.FluxesInterpolateSaid:=
 OpenClaim.holds_of_wide 4 Tryz.f4 rfl rfl rfl rfl rfl rfl rfl ⟨rfl,rfl,rfl,rfl,rfl⟩ rfl rfl rfl rfl rfl (by kernel_rfl) Tryz.func4 (by kernel_rfl)
  (of_decide_eq_true (by kernel_rfl)) (by unfold Func.isWrapper;first|(rw [if_pos (by decide+kernel)];kernel_rfl)|(rw [if_neg (by decide+kernel)];exact⟨rfl,rfl⟩))
  (fun os started H enc _=>lifted os started H enc)
end Go.Proofs.YtfgmdhjmgdccdaaGreat
