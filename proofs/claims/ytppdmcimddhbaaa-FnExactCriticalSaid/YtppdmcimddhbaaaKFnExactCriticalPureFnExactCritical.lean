/-
The plain law of Critical: the words without which somebody is not of a circle, as the reference tells them; nothing is shared.
-/
import Derived.Test.YtppdmcimddhbaaaKFnExactCriticalPDx0
import Derived.Test.YtppdmcimddhbaaaKFnExactCriticalPDxo
import Derived.Test.YtppdmcimddhbaaaKFnExactCriticalPDx12
import Derived.Test.YtppdmcimddhbaaaKFnExactCriticalPDx6
import Derived.Test.YtppdmcimddhbaaaKFnExactCriticalQ18
namespace Go.Proofs.Ytppdmcimddhbaaa
open Go.RowKit Go.Proofs.YtppdmcimddhbaaaW.PrintWords Go.Proofs.YtppdmcimddhbaaaW.PrintLast Go.Proofs.YtppdmcimddhbaaaW.PrintMore Go.Proofs.Ytppdmcimddhbaaa.PD
set_option linter.unusedVariables false
set_option linter.unusedSimpArgs false
theorem Pure.FnExactCritical : ∀ (x0 : List (S111)) (x1 : S58) (x2 : Int), All G111 x0 → G58 x1 → I64 x2 → ∃ k, laws_FnExactCritical.f k x0 x1.f0 x1.f1 x2 = some true := by
  intro x0 x1 x2 hg _ _
  have hl : x0.length ≤ 9223372036854775807 := hg.1
  refine Q.Ev.get (g := fun k => laws_FnExactCritical.f k x0 x1.f0 x1.f1 x2) ?_
  unfold laws_FnExactCritical.f
  rw [Q.szCreds _ hl]
  by_cases h1 : x0.length ≤ 1048576
  · simp only [h1, ↓reduceIte, Option.bind_some, show ¬ ((1048576 : Int) - (x0.length : Int) < 0) by omega]
    have hm : (x0.map Q.toC).length ≤ 1048576 := by rw [List.length_map]; exact h1
    have hf := Q.critL_len (x0.map Q.toC) ⟨x1.f0, x1.f1⟩ x2
    refine Ev.bind (Q.toCreds _ h1) ?_
    simp only [laws_toRole.f, Option.bind_some]
    refine Ev.bind (Q.spec_Crit _ hm _ _ _) ?_
    refine Ev.bind (Q.toCreds _ h1) ?_
    refine Ev.bind (Q.impl_Crit _ hm _ _ _) ?_
    refine Ev.bind (Q.eqInts _ (by omega)) ?_
    simp only [↓reduceIte]
    refine Ev.bind (Q.toCreds _ h1) ?_
    refine Ev.bind (Q.eqCreds _ hm) ?_
    simp only [↓reduceIte]
    refine Ev.bind (Q.markCreds _ hm) ?_
    simp only [show ¬ ((1 : Int) + 10 * ((x0.map Q.toC).length : Int) < 0) by omega, ↓reduceIte]
    refine Ev.bind (Q.eqInts _ (by omega)) ?_
    refine Q.Ev.succ ?_
    simp only [laws_FnExactCritical.j0, Bool.not_true, Bool.false_eq_true, ↓reduceIte]
    refine Ev.bind (Q.markInts _ (by omega)) ?_
    refine Ev.bind (Q.heldInts _ (by omega)) ?_
    simp only [show ¬ ((1 : Int) + ((Q.critL (x0.map Q.toC) ⟨x1.f0, x1.f1⟩ x2).length : Int) < 0) by omega, ↓reduceIte]
    refine Ev.bind (Q.toCreds _ h1) ?_
    simp only [laws_toRole.f, Option.bind_some]
    refine Ev.bind (Q.impl_Crit _ hm _ _ _) ?_
    refine Ev.bind (Q.eqInts _ (by omega)) ?_
    simp only [↓reduceIte]
    refine Ev.bind (Q.heldInts _ (by omega)) ?_
    simp only [show ¬ ((1 : Int) + ((Q.critL (x0.map Q.toC) ⟨x1.f0, x1.f1⟩ x2).length : Int) < 0) by omega, ↓reduceIte]
    exact Ev.now _
  · simp only [h1, ↓reduceIte, Option.bind_some, show ((-1 : Int) < 0) by omega]
    exact Ev.now _
end Go.Proofs.Ytppdmcimddhbaaa
