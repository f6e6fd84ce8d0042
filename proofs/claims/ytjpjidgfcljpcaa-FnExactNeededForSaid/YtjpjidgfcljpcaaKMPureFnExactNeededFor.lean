/-
The plain law of FnExactNeededFor.
-/
import Derived.Test.YtjpjidgfcljpcaaKMPAx23
import Derived.Test.YtjpjidgfcljpcaaKMQ17
namespace Go.Proofs.Ytjpjidgfcljpcaa
open Go.RowKit Go.Proofs.YtjpjidgfcljpcaaW.PrintWords Go.Proofs.YtjpjidgfcljpcaaW.PrintLast Go.Proofs.YtjpjidgfcljpcaaW.PrintMore Go.Proofs.Ytjpjidgfcljpcaa.PA
set_option linter.unusedVariables false
set_option linter.unusedSimpArgs false
theorem Pure.FnExactNeededFor : ∀ (x0 : List (S118)) (x1 : S83), All G118 x0 → G83 x1 → ∃ k, laws_FnExactNeededFor.f k x0 x1.f0 x1.f1 = some true := by
 intro x0 x1 hg _
 have hl : x0.length ≤ 9223372036854775807 := hg.1
 refine Q.Ev.get (g := fun k => laws_FnExactNeededFor.f k x0 x1.f0 x1.f1) ?_
 unfold laws_FnExactNeededFor.f
 rw [Q.szCreds _ hl]
 by_cases h1 : x0.length ≤ 1048576
 ·simp only [h1, ↓reduceIte, laws_toRole.f, Option.bind_some, show ¬ ((1048576 : Int) - (x0.length : Int) < 0) by omega]
  have hm : (x0.map Q.toC).length ≤ 1048576 := by rw [List.length_map]; exact h1
  have hf : (Q.neededD (x0.map Q.toC) ⟨x1.f0, x1.f1⟩).length ≤ 1048576 := by exact Nat.le_trans (List.length_filter_le _ _) hm
  refine Ev.bind (Q.toCreds _ h1) ?_
  refine Ev.bind (Q.spec_Needed _ hm _ _) ?_
  refine Ev.bind (Q.toCreds _ h1) ?_
  refine Ev.bind (Q.impl_Needed _ hm _ _) ?_
  refine Ev.bind (Q.eqCreds _ hf) ?_
  simp only [↓reduceIte]
  refine Ev.bind (Q.toCreds _ h1) ?_
  refine Ev.bind (Q.eqCreds _ hm) ?_
  simp only [↓reduceIte]
  refine Ev.bind (Q.markCreds _ hm) ?_
  simp only [show ¬ ((1 : Int) + 10 * ((x0.map Q.toC).length : Int) < 0) by omega, ↓reduceIte]
  refine Ev.bind (Q.eqCreds _ hf) ?_
  refine Q.Ev.succ ?_
  simp only [laws_FnExactNeededFor.j0, laws_toRole.f, Option.bind_some, Bool.not_true, Bool.false_eq_true, ↓reduceIte]
  refine Ev.bind (Q.markCreds _ hf) ?_
  refine Ev.bind (Q.heldCreds _ hf) ?_
  simp only [show ¬ ((1 : Int) + 10 * ((Q.neededD (x0.map Q.toC) ⟨x1.f0, x1.f1⟩).length : Int) < 0) by omega, ↓reduceIte]
  refine Ev.bind (Q.toCreds _ h1) ?_
  refine Ev.bind (Q.impl_Needed _ hm _ _) ?_
  refine Ev.bind (Q.eqCreds _ hf) ?_
  simp only [↓reduceIte]
  refine Ev.bind (Q.heldCreds _ hf) ?_
  simp only [show ¬ ((1 : Int) + 10 * ((Q.neededD (x0.map Q.toC) ⟨x1.f0, x1.f1⟩).length : Int) < 0) by omega, ↓reduceIte]
  exact Ev.now _
 ·simp only [h1, ↓reduceIte, Option.bind_some, show ((-1 : Int) < 0) by omega]
  exact Ev.now _
end Go.Proofs.Ytjpjidgfcljpcaa
