/- The row of FnExactStepText, out of the pure statement and the walk: for every input the law returns true and each argument reads as it did. No condition beyond the row's own. -/
import Derived.Test.YtcgnegnljffkmaaPAx15
import Derived.Test.YtcgnegnljffkmaaZOpen
import Derived.Test.YtcgnegnljffkmaaPAxo
import Derived.Test.YtcgnegnljffkmaaRows
import Derived.Test.YtcgnegnljffkmaaPureFnExactStepText
import Derived.WalkKit
import Derived.ProofKit
import Derived.OpenShut
import Derived.ShutString
import Derived.ChangeOld
import Derived.Below
import Derived.SizedLaws
namespace Go.Proofs.Ytcgnegnljffkmaa.fnExactStepText
open Go.ChangeShapes Go.WideShapes Go.ChangeAt Go.RowKit Go.Proofs.YtcgnegnljffkmaaW.PrintWords Go.Proofs.Ytcgnegnljffkmaa.PA
open Go.ChangeMaps (open_string shut_string)
set_option linter.unusedVariables false
theorem own : ownKnob Try.prog.godebug = none := by kernel_rfl
theorem laidOut : laidOutB Try.prog = true := by kernel_rfl
set_option maxRecDepth 100000 in
theorem lifted (os : Os) (started : os.Started) (H : Type) (enc : TypeId × Value → H) :
    ReturnsInHanded {} Try.checked os 9 .any (Rows.fnExactStepTextSpec.pre6 enc Try.prog Try.f9 Rows.fnExactStepTextRow.domain false) (Rows.fnExactStepTextSpec.post enc Try.prog Try.f9 false true false false) := by
  refine returnsInHanded_of_change_sized (C := Try.checked) own started (by kernel_rfl) Try.func9
    (ChangeSpec.witness6 (enc := enc) (C := Try.checked) false ⟨#[], #[(.agg #[(.int .i64 0), (.int .i64 0), (.int .i64 0), (.int .i64 0), (.int .i64 0), (.int .i64 0), (.int .i64 0), (.int .i64 0), (.int .i64 0), (.int .i64 0), (.int .i64 0), (.int .i64 0), (.int .i64 0), (.slice none 0 0)])], []⟩ 12 (by kernel_rfl) (by kernel_rfl) (by kernel_rfl) (by kernel_rfl)) ?_
  intro W base args ds gs before hval0 hW hcnd hsz0 _
  have hval : ∀ (j : Nat) t v, Try.f9.params[j]? = some t → args[j]? = some v → Value.okWide Try.prog W .any base t v := hval0
  have hW' := hW
  obtain ⟨p, q, hA0, hV, rfl, hfz, hnd⟩ := hW
  have hA : DataW.TrodAll enc Try.prog W 0 (fun _ => true) true Try.f9.params.toList args.toList ds p := hA0
  rw [Try.params9] at hA hval
  obtain ⟨v0, vs0, d0, ds0, p0, q0, hargs, rfl, rfl, h0, r0⟩ := trodAll_cons hA
  obtain ⟨rfl, rfl, rfl⟩ := trodAll_nil r0
  obtain rfl : args = #[v0] := by cases args; simp_all
  obtain ⟨rfl, rfl⟩ := trodVars_none hV
  have t0 := h0
  have lt0 := arg_lt t0
  obtain ⟨x0, cs0, rfl, K0, g0⟩ := arg_struct Try.underlying72 op72 (hval 0 72 v0 rfl rfl) h0
  obtain ⟨A0_13, c0_13, rfl, l0_13, r0_13⟩ := k72_open K0
  clear hA0 hval0 hsz0
  obtain ⟨k, hk⟩ := Pure.FnExactStepText x0 g0
  refine (laws_FnExactStepText.calls k x0.f0.f0 x0.f0.f1.f0 x0.f0.f1.f1 x0.f0.f2 x0.f0.f3.f0 x0.f0.f3.f1 x0.f0.f4.f0 x0.f0.f4.f1 x0.f0.f5 x0.f0.f6 x0.f1.f0.f0 x0.f1.f0.f1 x0.f1.f1 A0_13 c0_13 x0.f2 true W r0_13 l0_13 hk).mono fun e W' ⟨he, bel0⟩ => ?_
  have bel : Below W.heap.size W W' := bel0
  subst he
  exact ⟨_, rfl, _, _, _, [], _, [], hW', trodAll_mk1 (shut_bool Try.underlying4 _), (trodAll_cons_mk (Below.trod laidOut (by kernel_rfl) (of_decide_eq_true (by kernel_rfl)) t0 bel lt0) trodAll_mk0), rfl, bel.frame _, fun h => by cases h⟩
theorem over : Rows.fnExactStepTextRow.holds Try.pinned (OpenSpec.ofChange Rows.fnExactStepTextSpec) :=
  OpenClaim.holds_of_wide 9 Try.f9 rfl rfl rfl rfl rfl rfl rfl ⟨rfl, rfl, rfl, rfl, rfl⟩ rfl rfl rfl rfl rfl (by kernel_rfl) Try.func9 (by kernel_rfl)
    (of_decide_eq_true (by kernel_rfl)) (by unfold Func.isWrapper; first | (rw [if_pos (by decide +kernel)]; kernel_rfl) | (rw [if_neg (by decide +kernel)]; exact ⟨rfl, rfl⟩))
    (fun os started H enc _ => lifted os started H enc)
theorem proved : Rows.FnExactStepTextSaid := over
#print axioms proved
end Go.Proofs.Ytcgnegnljffkmaa.fnExactStepText
namespace Go.Proofs.Ytcgnegnljffkmaa
/-- The row, under a short name, for the claim. -/
theorem fnExactStepText_holds : Rows.FnExactStepTextSaid := fnExactStepText.proved
end Go.Proofs.Ytcgnegnljffkmaa
