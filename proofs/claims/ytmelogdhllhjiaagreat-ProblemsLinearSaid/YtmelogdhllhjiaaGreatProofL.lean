/-
  For every four numbers K and C, every two lists of raw terms and every number, ProblemsLinear returns true, and its arguments read afterwards as they read before. No condition.
-/
import Derived.Test.YtmelogdhllhjiaaGreatRows
import Derived.Test.YtmelogdhllhjiaaGreatJ45
set_option linter.unusedSimpArgs false
set_option linter.unusedVariables false
namespace Go.Proofs.YtmelogdhllhjiaaGreat
open Go.ChangeShapes Go.WideShapes Go.ChangeAt Go.RowKit
theorem own:ownKnob Tryz.prog.godebug=none:=by kernel_rfl
theorem kept_of {w w':World} (h:Gr w.heap.size w w') (may:MemPlace→Prop):w.keptBut w' may:=by
 refine⟨h.os,h.output,fun i hi=>?_⟩
 rw [h.block i hi]
 cases e:w.heap[i]? with
 | none=>rfl
 | some o=>cases o<;>first|rfl|exact⟨rfl,rfl,rfl,fun _ _=>rfl⟩|exact .inr ⟨rfl,rfl⟩
theorem read_K:Tryz.prog.readableRec 25=true:=by kernel_rfl
theorem read_Z:Tryz.prog.readableRec 27=true:=by kernel_rfl
theorem read_Q:Tryz.prog.readableRec 24=true:=by kernel_rfl
theorem lt_K:25<Tryz.prog.types.size:=of_decide_eq_true (by kernel_rfl)
theorem lt_Z:27<Tryz.prog.types.size:=of_decide_eq_true (by kernel_rfl)
theorem lt_Q:24<Tryz.prog.types.size:=of_decide_eq_true (by kernel_rfl)
set_option maxRecDepth 100000 in
theorem lifted (os:Os) (started:os.Started) (H:Type) (enc:TypeId×Value→H):
  ReturnsInHanded {} Tryz.checked os 3 .any (Rows.problemsLinearSpec.pre6 enc Tryz.prog Tryz.f3 Rows.problemsLinearRow.domain false) (Rows.problemsLinearSpec.post enc Tryz.prog Tryz.f3 false true false false):=by
 refine returnsInHanded_of_change (C:=Tryz.checked) own started (by kernel_rfl) Tryz.func3
  (ChangeSpec.witness6 (enc:=enc) (C:=Tryz.checked) false ⟨#[],#[.agg #[.int .i64 0,.int .u32 0,.int .i64 0,.int .u32 0,.int .i64 0,.int .u32 0,.int .i64 0,.int .u32 0],.agg #[.slice none 0 0,.slice none 0 0],.agg #[.int .i64 0,.int .u32 0]],[]⟩ 8 (by kernel_rfl) (by kernel_rfl) (by kernel_rfl) (by kernel_rfl)) ?_
 intro W base args ds gs before hval0 hW _ _
 have hval:∀(j:Nat) t v,Tryz.f3.params[j]? =some t→args[j]? =some v→Value.okWide Tryz.prog W .any base t v:=hval0
 have hW':=hW
 obtain ⟨p,q,hA0,hV,rfl,_,_⟩:=hW
 have hA:DataW.TrodAll enc Tryz.prog W 0 (fun _=>true) true Tryz.f3.params.toList args.toList ds p:=hA0
 rw [Tryz.params3]at hA hval
 obtain ⟨v0,v1,v2,e0,e1,e2,g0,g1,g2,rfl,rfl,rfl,h0,h1,h2⟩:=trodAll_three hA
 obtain ⟨rfl,rfl⟩:=trodVars_none hV
 obtain ⟨n0,d0,n1,d1,n2,d2,n3,d3,rfl,⟨p0,p1,p2,p3⟩,q0,q1,q2,q3⟩:=open_K (hval 0 25 v0 rfl rfl) h0
 obtain ⟨c0,c1,l0,l1,rfl,r0,r1,o0,o1⟩:=open_Z (hval 1 27 v1 rfl rfl) h1
 obtain ⟨n,d,rfl,pn,qn⟩:=open_Q1 (hval 2 24 v2 rfl rfl) h2
 clear hA0 hval0
 simp only [List.append_nil]at hW'
 refine(law_true n0 n1 n2 n3 n d0 d1 d2 d3 d l0 l1 c0 c1 p0 p1 p2 p3 pn q0 q1 q2 q3 qn o0 o1 W r0 r1).mono fun e W' ⟨he,hg⟩=>?_
 subst he
 have a0:=again_at hg read_K lt_K h0
 have a1:=again_at hg read_Z lt_Z h1
 have a2:=again_at hg read_Q lt_Q h2
 refine⟨_,rfl,[e0,e1,e2],[],_,[],_,[],hW',trodAll_mk1 (shut_bool Tryz.underlying4 _),⟨_,_,a0,⟨_,_,a1,⟨_,_,a2,rfl,rfl⟩,rfl⟩,rfl⟩,rfl,kept_of hg _,fun h=>by cases h⟩
theorem linear_holds:Rows.ProblemsLinearSaid:=
 OpenClaim.holds_of_wide 3 Tryz.f3 rfl rfl rfl rfl rfl rfl rfl ⟨rfl,rfl,rfl,rfl,rfl⟩ rfl rfl rfl rfl rfl (by kernel_rfl) Tryz.func3 (by kernel_rfl)
  (of_decide_eq_true (by kernel_rfl)) (by unfold Func.isWrapper;first|(rw [if_pos (by decide+kernel)];kernel_rfl)|(rw [if_neg (by decide+kernel)];exact⟨rfl,rfl⟩))
  (fun os started H enc _=>lifted os started H enc)
end Go.Proofs.YtmelogdhllhjiaaGreat
