/- The row of FnExactSoundWorld, out of the pure statement and the walk: for every input the law returns true and each argument reads as it did. No condition beyond the row's own. -/
import Derived.Test.YteofimccoadmeaaGreatKWPureFnExactSoundWorld
import Derived.Test.YteofimccoadmeaaGreatKWFacts
namespace Go.Proofs.YteofimccoadmeaaGreat.fnExactSoundWorld
open Go.ChangeShapes Go.WideShapes Go.ChangeAt Go.RowKit Go.Proofs.YteofimccoadmeaaGreatW.PrintWords Go.Proofs.YteofimccoadmeaaGreat.PA
open Go.ChangeMaps (open_string shut_string)
set_option linter.unusedVariables false
set_option maxRecDepth 100000 in
theorem lifted (os : Os) (started : os.Started) (H : Type) (enc : TypeId × Value → H) :
    ReturnsInHanded {} Tryz.checked os 3 .any (Rows.fnExactSoundWorldSpec.pre6 enc Tryz.prog Tryz.f3 Rows.fnExactSoundWorldRow.domain false) (Rows.fnExactSoundWorldSpec.post enc Tryz.prog Tryz.f3 false true false false) := by
  refine returnsInHanded_of_change_sized (C := Tryz.checked) Facts.own started (by kernel_rfl) Tryz.func3
    (ChangeSpec.witness6 (enc := enc) (C := Tryz.checked) false ⟨#[], #[(.agg #[(.slice none 0 0), (.int .i64 0), (.slice none 0 0), (.slice none 0 0), (.slice none 0 0), (.slice none 0 0), (.slice none 0 0), (.slice none 0 0)])], []⟩ 12 (by kernel_rfl) (by kernel_rfl) (by kernel_rfl) (by kernel_rfl)) ?_
  intro W base args ds gs before hval0 hW hcnd hsz0 _
  have hval : ∀ (j : Nat) t v, Tryz.f3.params[j]? = some t → args[j]? = some v → Value.okWide Tryz.prog W .any base t v := hval0
  have hW' := hW
  obtain ⟨p, q, hA0, hV, rfl, hfz, hnd⟩ := hW
  have hA : DataW.TrodAll enc Tryz.prog W 0 (fun _ => true) true Tryz.f3.params.toList args.toList ds p := hA0
  rw [Tryz.params3] at hA hval
  obtain ⟨v0, vs0, d0, ds0, p0, q0, hargs, rfl, rfl, h0, r0⟩ := trodAll_cons hA
  obtain ⟨rfl, rfl, rfl⟩ := trodAll_nil r0
  obtain rfl : args = #[v0] := by cases args; simp_all
  obtain ⟨rfl, rfl⟩ := trodVars_none hV
  have t0 := h0
  have lt0 := arg_lt t0
  obtain ⟨x0, cs0, rfl, K0, g0⟩ := arg_struct Tryz.underlying30 op30 (hval 0 30 v0 rfl rfl) h0
  obtain ⟨A0_0, c0_0, A0_2, c0_2, A0_3, c0_3, A0_4, c0_4, A0_5, c0_5, A0_6, c0_6, A0_7, c0_7, rfl, l0_0, r0_0, l0_2, r0_2, l0_3, r0_3, l0_4, r0_4, l0_5, r0_5, l0_6, r0_6, l0_7, r0_7⟩ := k30_open K0
  clear hA0 hval0 hsz0
  obtain ⟨k, hk⟩ := Pure.FnExactSoundWorld x0 g0
  refine (laws_FnExactSoundWorld.calls k A0_0 c0_0 x0.f0.f0 x0.f1 A0_2 c0_2 x0.f2 A0_3 c0_3 x0.f3 A0_4 c0_4 x0.f4 A0_5 c0_5 x0.f5 A0_6 c0_6 x0.f6 A0_7 c0_7 x0.f7 true W r0_0 l0_0 r0_2 l0_2 r0_3 l0_3 r0_4 l0_4 r0_5 l0_5 r0_6 l0_6 r0_7 l0_7 rfl hk).mono fun e W' ⟨he, bel0⟩ => ?_
  have bel : Below W.heap.size W W' := bel0
  subst he
  exact ⟨_, rfl, _, _, _, [], _, [], hW', trodAll_mk1 (shut_bool Tryz.underlying4 _), (trodAll_cons_mk (Below.trod Facts.laidOut (by kernel_rfl) (of_decide_eq_true (by kernel_rfl)) t0 bel lt0) trodAll_mk0), rfl, bel.frame _, fun h => by cases h⟩
theorem in0 : (Rows.fnExactSoundWorldRow.inPlace == Program.inPlace Tryz.pinned.checked.prog 3) = true := by kernel_rfl
theorem in1 : (Rows.fnExactSoundWorldRow.unfollowed == Program.unfollowed Tryz.pinned.checked.prog 3) = true := by kernel_rfl
theorem in2 : (Rows.fnExactSoundWorldRow.recurses == Program.recurses Tryz.pinned.checked.prog 3) = true := by kernel_rfl
theorem in3 : (Rows.fnExactSoundWorldRow.named == Program.varsNamed Tryz.pinned.checked.prog 3) = true := by kernel_rfl
theorem closed : joinedFacts Tryz.pinned.checked.prog 3 Tryz.f3 Rows.fnExactSoundWorldSpec Rows.fnExactSoundWorldRow = true := by
  unfold joinedFacts
  rw [Facts.may, Facts.stops, Facts.heard, Facts.maps, Facts.laid, in0, in1, in2, in3]
  kernel_rfl
theorem over : Rows.fnExactSoundWorldRow.holds Tryz.pinned (OpenSpec.ofChange Rows.fnExactSoundWorldSpec) :=
  OpenClaim.holds_of_wide 3 Tryz.f3 rfl rfl rfl rfl rfl rfl rfl ⟨rfl, rfl, rfl, rfl, rfl⟩ rfl rfl rfl rfl rfl (by kernel_rfl) Tryz.func3 closed
    (of_decide_eq_true (by kernel_rfl)) (by unfold Func.isWrapper; first | (rw [if_pos (by decide +kernel)]; kernel_rfl) | (rw [if_neg (by decide +kernel)]; exact ⟨rfl, rfl⟩))
    (fun os started H enc _ => lifted os started H enc)
theorem proved : Rows.FnExactSoundWorldSaid := over
#print axioms proved
end Go.Proofs.YteofimccoadmeaaGreat.fnExactSoundWorld
namespace Go.Proofs.YteofimccoadmeaaGreat
theorem fnExactSoundWorld_holds : Rows.FnExactSoundWorldSaid := fnExactSoundWorld.proved
end Go.Proofs.YteofimccoadmeaaGreat
