/- The row of FnExactLostAt, out of the pure statement and the walk: for every input the law returns true and each argument reads as it did. No condition beyond the row's own. -/
import Derived.Test.YtppdmcimddhbaaaKTPureFnExactLostAt
import Derived.Test.YtppdmcimddhbaaaKTFacts
namespace Go.Proofs.Ytppdmcimddhbaaa.fnExactLostAt
open Go.ChangeShapes Go.WideShapes Go.ChangeAt Go.RowKit Go.Proofs.YtppdmcimddhbaaaW.PrintWords Go.Proofs.Ytppdmcimddhbaaa.PH
open Go.ChangeMaps (open_string shut_string)
set_option linter.unusedVariables false
set_option maxRecDepth 100000 in
theorem lifted (os : Os) (started : os.Started) (H : Type) (enc : TypeId × Value → H) :
    ReturnsInHanded {} Try.checked os 10 .any (Rows.fnExactLostAtSpec.pre6 enc Try.prog Try.f10 Rows.fnExactLostAtRow.domain false) (Rows.fnExactLostAtSpec.post enc Try.prog Try.f10 false true false false) := by
  refine returnsInHanded_of_change_sized (C := Try.checked) Facts.own started (by kernel_rfl) Try.func10
    (ChangeSpec.witness6 (enc := enc) (C := Try.checked) false ⟨#[], #[(.slice none 0 0), (.int .i64 0)], []⟩ 12 (by kernel_rfl) (by kernel_rfl) (by kernel_rfl) (by kernel_rfl)) ?_
  intro W base args ds gs before hval0 hW hcnd hsz0 _
  have hval : ∀ (j : Nat) t v, Try.f10.params[j]? = some t → args[j]? = some v → Value.okWide Try.prog W .any base t v := hval0
  have hW' := hW
  obtain ⟨p, q, hA0, hV, rfl, hfz, hnd⟩ := hW
  have hA : DataW.TrodAll enc Try.prog W 0 (fun _ => true) true Try.f10.params.toList args.toList ds p := hA0
  rw [Try.params10] at hA hval
  obtain ⟨v0, vs0, d0, ds0, p0, q0, hargs, rfl, rfl, h0, r0⟩ := trodAll_cons hA
  obtain ⟨v1, vs1, d1, ds1, p1, q1, rfl, rfl, rfl, h1, r1⟩ := trodAll_cons r0
  obtain ⟨rfl, rfl, rfl⟩ := trodAll_nil r1
  obtain rfl : args = #[v0, v1] := by cases args; simp_all
  obtain ⟨rfl, rfl⟩ := trodVars_none hV
  have t0 := h0
  have lt0 := arg_lt t0
  obtain ⟨A0, c0, x0, rfl, l0, hr0, g0⟩ := arg_slice Try.underlying57 op111 (hval 0 57 v0 rfl rfl) h0
  have t1 := h1
  have lt1 := arg_lt t1
  obtain ⟨x1, rfl, _, _, w1⟩ := open_int Try.underlying3 (hval 1 3 v1 rfl rfl) h1
  have g1 : I64 x1 := by simp [Lit.wf, IntKind.min, IntKind.max, IntKind.signed, IntKind.bits] at w1; unfold I64; omega
  clear hA0 hval0 hsz0
  obtain ⟨k, hk⟩ := Pure.FnExactLostAt x0 x1 g0 g1
  refine (laws_FnExactLostAt.calls k A0 c0 x0 x1 true W hr0 l0 hk).mono fun e W' ⟨he, bel0⟩ => ?_
  have bel : Below W.heap.size W W' := bel0
  subst he
  exact ⟨_, rfl, _, _, _, [], _, [], hW', trodAll_mk1 (shut_bool Try.underlying4 _), (trodAll_cons_mk (Below.trod Facts.laidOut (by kernel_rfl) (of_decide_eq_true (by kernel_rfl)) t0 bel lt0) (trodAll_cons_mk (Below.trod Facts.laidOut (by kernel_rfl) (of_decide_eq_true (by kernel_rfl)) t1 bel lt1) trodAll_mk0)), rfl, bel.frame _, fun h => by cases h⟩
theorem in0 : (Rows.fnExactLostAtRow.inPlace == Program.inPlace Try.pinned.checked.prog 10) = true := by kernel_rfl
theorem in1 : (Rows.fnExactLostAtRow.unfollowed == Program.unfollowed Try.pinned.checked.prog 10) = true := by kernel_rfl
theorem in2 : (Rows.fnExactLostAtRow.recurses == Program.recurses Try.pinned.checked.prog 10) = true := by kernel_rfl
theorem in3 : (Rows.fnExactLostAtRow.named == Program.varsNamed Try.pinned.checked.prog 10) = true := by kernel_rfl
theorem closed : joinedFacts Try.pinned.checked.prog 10 Try.f10 Rows.fnExactLostAtSpec Rows.fnExactLostAtRow = true := by
  unfold joinedFacts
  rw [Facts.may, Facts.stops, Facts.heard, Facts.maps, Facts.laid, in0, in1, in2, in3]
  kernel_rfl
theorem over : Rows.fnExactLostAtRow.holds Try.pinned (OpenSpec.ofChange Rows.fnExactLostAtSpec) :=
  OpenClaim.holds_of_wide 10 Try.f10 rfl rfl rfl rfl rfl rfl rfl ⟨rfl, rfl, rfl, rfl, rfl⟩ rfl rfl rfl rfl rfl (by kernel_rfl) Try.func10 closed
    (of_decide_eq_true (by kernel_rfl)) (by unfold Func.isWrapper; first | (rw [if_pos (by decide +kernel)]; kernel_rfl) | (rw [if_neg (by decide +kernel)]; exact ⟨rfl, rfl⟩))
    (fun os started H enc _ => lifted os started H enc)
theorem proved : Rows.FnExactLostAtSaid := over
#print axioms proved
end Go.Proofs.Ytppdmcimddhbaaa.fnExactLostAt
namespace Go.Proofs.Ytppdmcimddhbaaa
/-- The row, under a short name, for the claim. -/
theorem fnExactLostAt_holds : Rows.FnExactLostAtSaid := fnExactLostAt.proved
end Go.Proofs.Ytppdmcimddhbaaa
