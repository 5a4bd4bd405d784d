/-
  For every six numbers ProblemsDefinite returns true, and both arguments read afterwards as they read before. No condition.
-/
import Derived.Test.YtpnlfljfgfkejaaGreatRows
import Derived.Test.YtpnlfljfgfkejaaGreatJ43
import Derived.ProofKit
import Derived.OpenShut
import Derived.WalkKit
import Derived.WalkSpells
import Derived.WalkLawsBesides
import Derived.Deep.RegionHeld3
import Derived.Deep.QuietTactic
import Derived.BigQuiet
import Derived.Deep.RegionWith
import Derived.KernelRfl
import Derived.Lib.Hide
import Derived.Maps.AppendAt
import Derived.Deep.AppendLies
import Derived.Laws.MakeOwn
import Derived.Laws.BitsAllLaws
import Derived.Laws.BytesArg
import Derived.Laws.StructEq
import Derived.Shelf.Spec.BitsCarry
import Derived.Deep.DeepCutAuto
import Derived.Laws.CopyOwn
import Derived.Deep.CutBlock
import Derived.Deep.CutRange
import Derived.Deep.MidRow
import Derived.Shelf.SlSortCmp.InsertionK
import Derived.Shelf.SlicesQ.Load
import Derived.Lib.SliceRun
import Derived.Shelf.SlSortCmp.NoneTotal
import Derived.Maps.OwnSet
import Derived.Maps.OwnOps
import Derived.Maps.Views
import Derived.DeepKeys4
import Derived.Maps.RangeWalk
import Derived.WideKeyEntry
import Derived.WalkMore
import Derived.Shelf.Abstract
import Derived.Deep.Upon
set_option linter.unusedSimpArgs false
set_option linter.unusedVariables false
namespace Go.Proofs.YtpnlfljfgfkejaaGreat
open Go.ChangeShapes Go.WideShapes Go.ChangeAt Go.RowKit
theorem own:ownKnob Tryz.prog.godebug=none:=by kernel_rfl
theorem cellsA:Tryz.prog.cellsOf 25=6:=by kernel_rfl
theorem cellsQ:Tryz.prog.cellsOf 24=2:=by kernel_rfl
theorem cellsN:Tryz.prog.cellsOf 2=1:=by kernel_rfl
theorem cellsD:Tryz.prog.cellsOf 22=1:=by kernel_rfl
theorem list6 {α:Type} (l:List α) (h:(⟨l⟩:Array α).size=6):∃a b c d e f,l= [a,b,c,d,e,f]:=by
 match l,h with
 | [a,b,c,d,e,f],_=>exact⟨a,b,c,d,e,f,rfl⟩
theorem list3 {α:Type} (l:List α) (h:l.length=3):∃a b c,l= [a,b,c]:=by
 match l,h with
 | [a,b,c],_=>exact⟨a,b,c,rfl⟩
set_option maxRecDepth 100000 in
theorem open_Q {H:Type} {enc:TypeId×Value→H} {w:World} {base m:Nat} {sp:Nat→Bool} {hd:Bool} {c d:Value} {y:DataW H×List MemPlace} (h:DataW.trod enc Tryz.prog w base sp hd m 24 [c,d]=some y):
  ∃(n:Int) (b:Nat),c= .int .i64 n∧d= .int .u32 (b:Int)∧y=(.agg [.lit (.int .i64 n),.lit (.int .u32 (b:Int))],[])∧(-9223372036854775808≤n∧n≤9223372036854775807)∧b<4294967296∧(Lit.int .i64 n).wf=true∧(Lit.int .u32 (b:Int)).wf=true:=by
 obtain ⟨y0,y1,k,rfl,_,h0,h1⟩:=trod_struct2 Tryz.underlying24 h
 obtain ⟨n,e0,rfl,w0⟩:=DataW.trod_int Tryz.underlying2 h0
 obtain ⟨b,e1,rfl,w1⟩:=DataW.trod_int Tryz.underlying22 h1
 rw [cellsN]at e0
 rw [cellsD]at e1
 simp at e0 e1
 subst e0 e1
 have hb:=bounds_u32 w1
 obtain ⟨b',rfl⟩:∃b':Nat,b=(b':Int):=⟨b.toNat,by omega⟩
 exact⟨n,b',rfl,rfl,rfl,bounds_i64 w0,by omega,w0,w1⟩
set_option maxRecDepth 100000 in
theorem open_A {H:Type} {enc:TypeId×Value→H} {w:World} {base b0:Nat} {sp:Nat→Bool} {hd:Bool} {v:Value} {d:DataW H} {ps:List MemPlace} (hval:Value.okWide Tryz.prog w .any b0 25 v) (h:DataW.Trod enc Tryz.prog w base sp hd 25 v d ps):
  ∃(n0 n1 n2:Int) (d0 d1 d2:Nat),v=q3V n0 d0 n1 d1 n2 d2∧ps= []∧(-9223372036854775808≤n0∧n0≤9223372036854775807)∧(-9223372036854775808≤n1∧n1≤9223372036854775807)∧(-9223372036854775808≤n2∧n2≤9223372036854775807)∧d0<4294967296∧d1<4294967296∧d2<4294967296∧
   ∀(w':World) (b':Nat) (sp':Nat→Bool) (hd':Bool),DataW.Trod enc Tryz.prog w' b' sp' hd' 25 v d []:=by
 obtain ⟨cs,rfl,hsz,_⟩:∃cs,v= .agg cs∧cs.size=Tryz.prog.cellsOf 25∧Row.okWide Tryz.prog w .any b0 25 cs:=by
  simpa [Value.okWide,Tryz.underlying25] using hval
 rw [cellsA]at hsz
 obtain ⟨l⟩:=cs
 obtain ⟨c0,c1,c2,c3,c4,c5,rfl⟩:=list6 l hsz
 obtain ⟨fuel,hf⟩:=h
 obtain ⟨xs,m,rfl,hx,_,hl,hi⟩:=DataW.trod_array Tryz.underlying25 hf
 obtain ⟨x0,x1,x2,rfl⟩:=list3 xs hl
 have h0:=hi 0 (by omega)
 have h1:=hi 1 (by omega)
 have h2:=hi 2 (by omega)
 rw [cellsQ]at h0 h1 h2
 obtain ⟨n0,d0,rfl,rfl,rfl,p0,q0,r0,s0⟩:=open_Q (y:=x0) (by simpa [Value.cells] using h0)
 obtain ⟨n1,d1,rfl,rfl,rfl,p1,q1,r1,s1⟩:=open_Q (y:=x1) (by simpa [Value.cells] using h1)
 obtain ⟨n2,d2,rfl,rfl,rfl,p2,q2,r2,s2⟩:=open_Q (y:=x2) (by simpa [Value.cells] using h2)
 simp only [Prod.mk.injEq]at hx
 obtain ⟨rfl,rfl⟩:=hx
 refine⟨n0,n1,n2,d0,d1,d2,rfl,rfl,p0,p1,p2,q0,q1,q2,fun w' b' sp' hd'=>⟨3,?_⟩⟩
 simp [DataW.trod,Value.cells,Tryz.underlying25,Tryz.underlying24,Tryz.underlying2,Tryz.underlying22,cellsA,cellsQ,cellsN,cellsD,r0,r1,r2,s0,s1,s2,show List.range 3= [0,1,2]from rfl]
theorem kept_of {w w':World} (h:Gr w.heap.size w w') (may:MemPlace→Prop):w.keptBut w' may:=by
 refine⟨h.os,h.output,fun i hi=>?_⟩
 rw [h.block i hi]
 cases e:w.heap[i]? with
 | none=>rfl
 | some o=>cases o<;>first|rfl|exact⟨rfl,rfl,rfl,fun _ _=>rfl⟩|exact .inr ⟨rfl,rfl⟩
set_option maxRecDepth 100000 in
theorem lifted (os:Os) (started:os.Started) (H:Type) (enc:TypeId×Value→H):
  ReturnsInHanded {} Tryz.checked os 3 .any (Rows.problemsDefiniteSpec.pre6 enc Tryz.prog Tryz.f3 Rows.problemsDefiniteRow.domain false) (Rows.problemsDefiniteSpec.post enc Tryz.prog Tryz.f3 false true false false):=by
 refine returnsInHanded_of_change (C:=Tryz.checked) own started (by kernel_rfl) Tryz.func3
  (ChangeSpec.witness6 (enc:=enc) (C:=Tryz.checked) false ⟨#[],#[.agg #[.int .i64 0,.int .u32 0,.int .i64 0,.int .u32 0,.int .i64 0,.int .u32 0],.agg #[.int .i64 0,.int .u32 0,.int .i64 0,.int .u32 0,.int .i64 0,.int .u32 0]],[]⟩ 8 (by kernel_rfl) (by kernel_rfl) (by kernel_rfl) (by kernel_rfl)) ?_
 intro W base args ds gs before hval0 hW _ _
 have hval:∀(j:Nat) t v,Tryz.f3.params[j]? =some t→args[j]? =some v→Value.okWide Tryz.prog W .any base t v:=hval0
 have hW':=hW
 obtain ⟨p,q,hA0,hV,rfl,_,_⟩:=hW
 have hA:DataW.TrodAll enc Tryz.prog W 0 (fun _=>true) true Tryz.f3.params.toList args.toList ds p:=hA0
 rw [Tryz.params3]at hA hval
 obtain ⟨v0,v1,e0,e1,g0,g1,rfl,rfl,rfl,h0,h1⟩:=trodAll_two hA
 obtain ⟨rfl,rfl⟩:=trodVars_none hV
 obtain ⟨a0,a1,a2,b0,b1,b2,rfl,rfl,p0,p1,p2,r0,r1,r2,rd0⟩:=open_A (hval 0 25 v0 rfl rfl) h0
 obtain ⟨c0,c1,c2,d0,d1,d2,rfl,rfl,q0,q1,q2,s0,s1,s2,rd1⟩:=open_A (hval 1 25 v1 rfl rfl) h1
 clear hA0 hval0
 simp only [List.append_nil]at hW'
 refine(law_true a0 a1 a2 c0 c1 c2 b0 b1 b2 d0 d1 d2 p0 p1 p2 q0 q1 q2 r0 r1 r2 s0 s1 s2 W).mono fun e W' ⟨he,hg⟩=>?_
 subst he
 refine⟨_,rfl,[e0,e1],[],[],[],[],[],hW',trodAll_mk1 (shut_bool Tryz.underlying4 _),trodAll_mk2 (rd0 _ _ _ _) (rd1 _ _ _ _),rfl,kept_of hg _,fun h=>by cases h⟩
theorem definite_holds:Rows.ProblemsDefiniteSaid:=
 OpenClaim.holds_of_wide 3 Tryz.f3 rfl rfl rfl rfl rfl rfl rfl ⟨rfl,rfl,rfl,rfl,rfl⟩ rfl rfl rfl rfl rfl (by kernel_rfl) Tryz.func3 (by kernel_rfl)
  (of_decide_eq_true (by kernel_rfl)) (by unfold Func.isWrapper;first|(rw [if_pos (by decide+kernel)];kernel_rfl)|(rw [if_neg (by decide+kernel)];exact⟨rfl,rfl⟩))
  (fun os started H enc _=>lifted os started H enc)
end Go.Proofs.YtpnlfljfgfkejaaGreat
