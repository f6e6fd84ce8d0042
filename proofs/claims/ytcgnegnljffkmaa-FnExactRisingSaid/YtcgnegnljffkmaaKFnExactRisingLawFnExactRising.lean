/- The row of FnExactRising, out of the pure statement and the walk: for every input the law returns true and each argument reads as it did. No condition beyond the row's own. -/
import Derived.Test.YtcgnegnljffkmaaRows
import Derived.WalkKit
import Derived.ProofKit
import Derived.OpenShut
import Derived.ShutString
import Derived.ChangeOld
import Derived.Below
import Derived.SizedLaws
import Derived.Test.YtcgnegnljffkmaaKFnExactRisingPEx6
import Derived.Test.YtcgnegnljffkmaaKFnExactRisingZOpen
import Derived.Test.YtcgnegnljffkmaaKFnExactRisingPExo
import Derived.Test.YtcgnegnljffkmaaKFnExactRisingPureFnExactRising
namespace Go.Proofs.Ytcgnegnljffkmaa.fnExactRising
open Go.ChangeShapes Go.WideShapes Go.ChangeAt Go.RowKit Go.Proofs.YtcgnegnljffkmaaW.PrintWords Go.Proofs.Ytcgnegnljffkmaa.PE
open Go.ChangeMaps (open_string shut_string)
set_option linter.unusedVariables false
theorem own : ownKnob Try.prog.godebug = none := by kernel_rfl
theorem laidOut : laidOutB Try.prog = true := by kernel_rfl
set_option maxRecDepth 100000 in
theorem lifted (os : Os) (started : os.Started) (H : Type) (enc : TypeId × Value → H) :
    ReturnsInHanded {} Try.checked os 6 .any (Rows.fnExactRisingSpec.pre6 enc Try.prog Try.f6 Rows.fnExactRisingRow.domain false) (Rows.fnExactRisingSpec.post enc Try.prog Try.f6 false true false false) := by
  refine returnsInHanded_of_change_sized (C := Try.checked) own started (by kernel_rfl) Try.func6
    (ChangeSpec.witness6 (enc := enc) (C := Try.checked) false ⟨#[], #[(.agg #[(.slice none 0 0)])], []⟩ 12 (by kernel_rfl) (by kernel_rfl) (by kernel_rfl) (by kernel_rfl)) ?_
  intro W base args ds gs before hval0 hW hcnd hsz0 _
  have hval : ∀ (j : Nat) t v, Try.f6.params[j]? = some t → args[j]? = some v → Value.okWide Try.prog W .any base t v := hval0
  have hW' := hW
  obtain ⟨p, q, hA0, hV, rfl, hfz, hnd⟩ := hW
  have hA : DataW.TrodAll enc Try.prog W 0 (fun _ => true) true Try.f6.params.toList args.toList ds p := hA0
  rw [Try.params6] at hA hval
  obtain ⟨v0, vs0, d0, ds0, p0, q0, hargs, rfl, rfl, h0, r0⟩ := trodAll_cons hA
  obtain ⟨rfl, rfl, rfl⟩ := trodAll_nil r0
  obtain rfl : args = #[v0] := by cases args; simp_all
  obtain ⟨rfl, rfl⟩ := trodVars_none hV
  have t0 := h0
  have lt0 := arg_lt t0
  obtain ⟨x0, cs0, rfl, K0, g0⟩ := arg_struct Try.underlying34 op34 (hval 0 34 v0 rfl rfl) h0
  obtain ⟨A0_0, c0_0, rfl, l0_0, r0_0⟩ := k34_open K0
  clear hA0 hval0 hsz0
  obtain ⟨k, hk⟩ := Pure.FnExactRising x0 g0
  refine (laws_FnExactRising.calls k A0_0 c0_0 x0.f0 true W r0_0 l0_0 hk).mono fun e W' ⟨he, bel0⟩ => ?_
  have bel : Below W.heap.size W W' := bel0
  subst he
  exact ⟨_, rfl, _, _, _, [], _, [], hW', trodAll_mk1 (shut_bool Try.underlying4 _), (trodAll_cons_mk (Below.trod laidOut (by kernel_rfl) (of_decide_eq_true (by kernel_rfl)) t0 bel lt0) trodAll_mk0), rfl, bel.frame _, fun h => by cases h⟩
theorem over : Rows.fnExactRisingRow.holds Try.pinned (OpenSpec.ofChange Rows.fnExactRisingSpec) :=
  OpenClaim.holds_of_wide 6 Try.f6 rfl rfl rfl rfl rfl rfl rfl ⟨rfl, rfl, rfl, rfl, rfl⟩ rfl rfl rfl rfl rfl (by kernel_rfl) Try.func6 (by kernel_rfl)
    (of_decide_eq_true (by kernel_rfl)) (by unfold Func.isWrapper; first | (rw [if_pos (by decide +kernel)]; kernel_rfl) | (rw [if_neg (by decide +kernel)]; exact ⟨rfl, rfl⟩))
    (fun os started H enc _ => lifted os started H enc)
theorem proved : Rows.FnExactRisingSaid := over
#print axioms proved
end Go.Proofs.Ytcgnegnljffkmaa.fnExactRising
namespace Go.Proofs.Ytcgnegnljffkmaa
/-- The row, under a short name, for the claim. -/
theorem fnExactRising_holds : Rows.FnExactRisingSaid := fnExactRising.proved
end Go.Proofs.Ytcgnegnljffkmaa
