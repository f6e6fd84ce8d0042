/- The row of FnExactSubjectPlace, out of the pure statement and the walk: for every input the law returns true and each argument reads as it did. No condition beyond the row's own. -/
import Derived.Test.YtingghknjicpjaaKPPureFnExactSubjectPlace
import Derived.Test.YtingghknjicpjaaKPFacts
namespace Go.Proofs.Ytingghknjicpjaa.fnExactSubjectPlace
open Go.ChangeShapes Go.WideShapes Go.ChangeAt Go.RowKit Go.Proofs.YtingghknjicpjaaW.PrintWords Go.Proofs.Ytingghknjicpjaa.PB
open Go.ChangeMaps (open_string shut_string)
set_option linter.unusedVariables false
set_option maxRecDepth 100000 in
theorem lifted (os : Os) (started : os.Started) (H : Type) (enc : TypeId × Value → H) :
    ReturnsInHanded {} Try.checked os 3 .any (Rows.fnExactSubjectPlaceSpec.pre6 enc Try.prog Try.f3 Rows.fnExactSubjectPlaceRow.domain false) (Rows.fnExactSubjectPlaceSpec.post enc Try.prog Try.f3 false true false false) := by
  refine returnsInHanded_of_change_sized (C := Try.checked) Facts.own started (by kernel_rfl) Try.func3
    (ChangeSpec.witness6 (enc := enc) (C := Try.checked) false ⟨#[], #[(.string ⟨#[]⟩)], []⟩ 12 (by kernel_rfl) (by kernel_rfl) (by kernel_rfl) (by kernel_rfl)) ?_
  intro W base args ds gs before hval0 hW hcnd hsz0 _
  have hval : ∀ (j : Nat) t v, Try.f3.params[j]? = some t → args[j]? = some v → Value.okWide Try.prog W .any base t v := hval0
  have hW' := hW
  obtain ⟨p, q, hA0, hV, rfl, hfz, hnd⟩ := hW
  have hA : DataW.TrodAll enc Try.prog W 0 (fun _ => true) true Try.f3.params.toList args.toList ds p := hA0
  rw [Try.params3] at hA hval
  obtain ⟨v0, vs0, d0, ds0, p0, q0, hargs, rfl, rfl, h0, r0⟩ := trodAll_cons hA
  obtain ⟨rfl, rfl, rfl⟩ := trodAll_nil r0
  obtain rfl : args = #[v0] := by cases args; simp_all
  obtain ⟨rfl, rfl⟩ := trodVars_none hV
  have t0 := h0
  have lt0 := arg_lt t0
  obtain ⟨x0, rfl, _, _, g0⟩ := open_string Try.underlying9 (hval 0 9 v0 rfl rfl) h0
  clear hA0 hval0 hsz0
  obtain ⟨k, hk⟩ := Pure.FnExactSubjectPlace x0 g0
  refine (laws_FnExactSubjectPlace.calls k x0 true W rfl hk).mono fun e W' ⟨he, bel0⟩ => ?_
  have bel : Below W.heap.size W W' := bel0
  subst he
  exact ⟨_, rfl, _, _, _, [], _, [], hW', trodAll_mk1 (shut_bool Try.underlying4 _), (trodAll_cons_mk (Below.trod Facts.laidOut (by kernel_rfl) (of_decide_eq_true (by kernel_rfl)) t0 bel lt0) trodAll_mk0), rfl, bel.frame _, fun h => by cases h⟩
theorem in0 : (Rows.fnExactSubjectPlaceRow.inPlace == Program.inPlace Try.pinned.checked.prog 3) = true := by kernel_rfl
theorem in1 : (Rows.fnExactSubjectPlaceRow.unfollowed == Program.unfollowed Try.pinned.checked.prog 3) = true := by kernel_rfl
theorem in2 : (Rows.fnExactSubjectPlaceRow.recurses == Program.recurses Try.pinned.checked.prog 3) = true := by kernel_rfl
theorem in3 : (Rows.fnExactSubjectPlaceRow.named == Program.varsNamed Try.pinned.checked.prog 3) = true := by kernel_rfl
theorem closed : joinedFacts Try.pinned.checked.prog 3 Try.f3 Rows.fnExactSubjectPlaceSpec Rows.fnExactSubjectPlaceRow = true := by
  unfold joinedFacts
  rw [Facts.may, Facts.stops, Facts.heard, Facts.maps, Facts.laid, in0, in1, in2, in3]
  kernel_rfl
theorem over : Rows.fnExactSubjectPlaceRow.holds Try.pinned (OpenSpec.ofChange Rows.fnExactSubjectPlaceSpec) :=
  OpenClaim.holds_of_wide 3 Try.f3 rfl rfl rfl rfl rfl rfl rfl ⟨rfl, rfl, rfl, rfl, rfl⟩ rfl rfl rfl rfl rfl (by kernel_rfl) Try.func3 closed
    (of_decide_eq_true (by kernel_rfl)) (by unfold Func.isWrapper; first | (rw [if_pos (by decide +kernel)]; kernel_rfl) | (rw [if_neg (by decide +kernel)]; exact ⟨rfl, rfl⟩))
    (fun os started H enc _ => lifted os started H enc)
theorem proved : Rows.FnExactSubjectPlaceSaid := over
#print axioms proved
end Go.Proofs.Ytingghknjicpjaa.fnExactSubjectPlace
namespace Go.Proofs.Ytingghknjicpjaa
theorem fnExactSubjectPlace_holds : Rows.FnExactSubjectPlaceSaid := fnExactSubjectPlace.proved
end Go.Proofs.Ytingghknjicpjaa
