/- The row of FnExactCostOf, out of the pure statement and the walk: for every input the law returns true and each argument reads as it did. No condition beyond the row's own. -/
import Derived.Test.YtppdmcimddhbaaaKCPureFnExactCostOf
import Derived.Test.YtppdmcimddhbaaaKCFacts
namespace Go.Proofs.Ytppdmcimddhbaaa.fnExactCostOf
open Go.ChangeShapes Go.WideShapes Go.ChangeAt Go.RowKit Go.Proofs.YtppdmcimddhbaaaW.PrintWords Go.Proofs.Ytppdmcimddhbaaa.PG
open Go.ChangeMaps (open_string shut_string)
set_option linter.unusedVariables false
set_option maxRecDepth 100000 in
theorem lifted (os : Os) (started : os.Started) (H : Type) (enc : TypeId × Value → H) :
    ReturnsInHanded {} Try.checked os 13 .any (Rows.fnExactCostOfSpec.pre6 enc Try.prog Try.f13 Rows.fnExactCostOfRow.domain false) (Rows.fnExactCostOfSpec.post enc Try.prog Try.f13 false true false false) := by
  refine returnsInHanded_of_change_sized (C := Try.checked) Facts.own started (by kernel_rfl) Try.func13
    (ChangeSpec.witness6 (enc := enc) (C := Try.checked) false ⟨#[], #[(.slice none 0 0), (.agg #[(.int .i64 0), (.int .i64 0)]), (.int .i64 0)], []⟩ 12 (by kernel_rfl) (by kernel_rfl) (by kernel_rfl) (by kernel_rfl)) ?_
  intro W base args ds gs before hval0 hW hcnd hsz0 _
  have hval : ∀ (j : Nat) t v, Try.f13.params[j]? = some t → args[j]? = some v → Value.okWide Try.prog W .any base t v := hval0
  have hW' := hW
  obtain ⟨p, q, hA0, hV, rfl, hfz, hnd⟩ := hW
  have hA : DataW.TrodAll enc Try.prog W 0 (fun _ => true) true Try.f13.params.toList args.toList ds p := hA0
  rw [Try.params13] at hA hval
  obtain ⟨v0, vs0, d0, ds0, p0, q0, hargs, rfl, rfl, h0, r0⟩ := trodAll_cons hA
  obtain ⟨v1, vs1, d1, ds1, p1, q1, rfl, rfl, rfl, h1, r1⟩ := trodAll_cons r0
  obtain ⟨v2, vs2, d2, ds2, p2, q2, rfl, rfl, rfl, h2, r2⟩ := trodAll_cons r1
  obtain ⟨rfl, rfl, rfl⟩ := trodAll_nil r2
  obtain rfl : args = #[v0, v1, v2] := by cases args; simp_all
  obtain ⟨rfl, rfl⟩ := trodVars_none hV
  have t0 := h0
  have lt0 := arg_lt t0
  obtain ⟨A0, c0, x0, rfl, l0, hr0, g0⟩ := arg_slice Try.underlying57 op111 (hval 0 57 v0 rfl rfl) h0
  have t1 := h1
  have lt1 := arg_lt t1
  obtain ⟨x1, cs1, rfl, K1, g1⟩ := arg_struct Try.underlying58 op58 (hval 1 58 v1 rfl rfl) h1
  obtain rfl := k58_open K1
  have t2 := h2
  have lt2 := arg_lt t2
  obtain ⟨x2, rfl, _, _, w2⟩ := open_int Try.underlying3 (hval 2 3 v2 rfl rfl) h2
  have g2 : I64 x2 := by simp [Lit.wf, IntKind.min, IntKind.max, IntKind.signed, IntKind.bits] at w2; unfold I64; omega
  clear hA0 hval0 hsz0
  obtain ⟨k, hk⟩ := Pure.FnExactCostOf x0 x1 x2 g0 g1 g2
  refine (laws_FnExactCostOf.calls k A0 c0 x0 x1.f0 x1.f1 x2 true W hr0 l0 hk).mono fun e W' ⟨he, bel0⟩ => ?_
  have bel : Below W.heap.size W W' := bel0
  subst he
  exact ⟨_, rfl, _, _, _, [], _, [], hW', trodAll_mk1 (shut_bool Try.underlying4 _), (trodAll_cons_mk (Below.trod Facts.laidOut (by kernel_rfl) (of_decide_eq_true (by kernel_rfl)) t0 bel lt0) (trodAll_cons_mk (Below.trod Facts.laidOut (by kernel_rfl) (of_decide_eq_true (by kernel_rfl)) t1 bel lt1) (trodAll_cons_mk (Below.trod Facts.laidOut (by kernel_rfl) (of_decide_eq_true (by kernel_rfl)) t2 bel lt2) trodAll_mk0))), rfl, bel.frame _, fun h => by cases h⟩
theorem in0 : (Rows.fnExactCostOfRow.inPlace == Program.inPlace Try.pinned.checked.prog 13) = true := by kernel_rfl
theorem in1 : (Rows.fnExactCostOfRow.unfollowed == Program.unfollowed Try.pinned.checked.prog 13) = true := by kernel_rfl
theorem in2 : (Rows.fnExactCostOfRow.recurses == Program.recurses Try.pinned.checked.prog 13) = true := by kernel_rfl
theorem in3 : (Rows.fnExactCostOfRow.named == Program.varsNamed Try.pinned.checked.prog 13) = true := by kernel_rfl
theorem closed : joinedFacts Try.pinned.checked.prog 13 Try.f13 Rows.fnExactCostOfSpec Rows.fnExactCostOfRow = true := by
  unfold joinedFacts
  rw [Facts.may, Facts.stops, Facts.heard, Facts.maps, Facts.laid, in0, in1, in2, in3]
  kernel_rfl
theorem over : Rows.fnExactCostOfRow.holds Try.pinned (OpenSpec.ofChange Rows.fnExactCostOfSpec) :=
  OpenClaim.holds_of_wide 13 Try.f13 rfl rfl rfl rfl rfl rfl rfl ⟨rfl, rfl, rfl, rfl, rfl⟩ rfl rfl rfl rfl rfl (by kernel_rfl) Try.func13 closed
    (of_decide_eq_true (by kernel_rfl)) (by unfold Func.isWrapper; first | (rw [if_pos (by decide +kernel)]; kernel_rfl) | (rw [if_neg (by decide +kernel)]; exact ⟨rfl, rfl⟩))
    (fun os started H enc _ => lifted os started H enc)
theorem proved : Rows.FnExactCostOfSaid := over
#print axioms proved
end Go.Proofs.Ytppdmcimddhbaaa.fnExactCostOf
namespace Go.Proofs.Ytppdmcimddhbaaa
theorem fnExactCostOf_holds : Rows.FnExactCostOfSaid := fnExactCostOf.proved
end Go.Proofs.Ytppdmcimddhbaaa
