/-
The plain law of Decides: what a policy tells by the program is what it tells by the reference.
-/
import Derived.Test.YtppdmcimddhbaaaKFnExactDecidesPCx0
import Derived.Test.YtppdmcimddhbaaaKFnExactDecidesPCxo
import Derived.Test.YtppdmcimddhbaaaKFnExactDecidesPCx17
import Derived.Test.YtppdmcimddhbaaaKFnExactDecidesPCx21
import Derived.Test.YtppdmcimddhbaaaKFnExactDecidesQ19
namespace Go.Proofs.Ytppdmcimddhbaaa
open Go.RowKit Go.Proofs.YtppdmcimddhbaaaW.PrintWords Go.Proofs.YtppdmcimddhbaaaW.PrintLast Go.Proofs.YtppdmcimddhbaaaW.PrintMore Go.Proofs.Ytppdmcimddhbaaa.PC
set_option linter.unusedVariables false
set_option linter.unusedSimpArgs false
theorem Pure.FnExactDecides : ∀ (x0 : List (S111)) (x1 : S88) (x2 : Int), All G111 x0 → G88 x1 → I64 x2 → ∃ k, laws_FnExactDecides.f k x0 x1.f0 x2 = some true := by
  intro x0 x1 x2 hg hg1 _
  have hl : x0.length ≤ 9223372036854775807 := hg.1
  have hl1 : x1.f0.length ≤ 9223372036854775807 := hg1.1
  refine Q.Ev.get (g := fun k => laws_FnExactDecides.f k x0 x1.f0 x2) ?_
  unfold laws_FnExactDecides.f
  rw [Q.szCreds _ hl]
  by_cases h1 : x0.length ≤ 1048576
  · have e : laws_szPolicy.f x1.f0 ((1048576 : Int) - (x0.length : Int)) = some (if x1.f0.length + x0.length ≤ 1048576 then (1048576 : Int) - (x0.length : Int) - (x1.f0.length : Int) else -1) := by
      unfold laws_szPolicy.f laws_szPolNodeS.f
      rw [Q.w64 (n := (1048576 : Int) - (x0.length : Int) - (x1.f0.length : Int)) (by omega) (by omega)]
      by_cases h2 : x1.f0.length + x0.length ≤ 1048576
      · simp only [show ¬ ((1048576 : Int) - (x0.length : Int) - (x1.f0.length : Int) < 0) by omega, h2, ↓reduceIte, Option.bind_some]
      · simp only [show ((1048576 : Int) - (x0.length : Int) - (x1.f0.length : Int) < 0) by omega, h2, ↓reduceIte, Option.bind_some] <;> first | rfl | (simp)
    simp only [h1, ↓reduceIte, Option.bind_some, show ¬ ((1048576 : Int) - (x0.length : Int) < 0) by omega, e]
    by_cases h2 : x1.f0.length + x0.length ≤ 1048576
    · simp only [h2, ↓reduceIte, show ¬ ((1048576 : Int) - (x0.length : Int) - (x1.f0.length : Int) < 0) by omega]
      have hm : (x0.map Q.toC).length ≤ 1048576 := by rw [List.length_map]; exact h1
      have hm1 : (x1.f0.map Q.toN).length ≤ 1048576 := by rw [List.length_map]; omega
      refine Ev.bind (Q.toCreds _ h1) ?_
      refine Ev.bind (Q.toPolicy _ (by omega)) ?_
      refine Ev.bind (Q.spec_Dec _ hm _ hm1 _) ?_
      refine Ev.bind (Q.toCreds _ h1) ?_
      refine Ev.bind (Q.toPolicy _ (by omega)) ?_
      refine Ev.bind (Q.impl_Dec _ hm _ hm1 _) ?_
      simp only [bne_self_eq_false, Bool.false_eq_true, ↓reduceIte]
      refine Ev.bind (Q.toCreds _ h1) ?_
      refine Ev.bind (Q.eqCreds _ hm) ?_
      simp only [↓reduceIte]
      refine Ev.bind (Q.toPolicy _ (by omega)) ?_
      refine Ev.bind (Q.eqPolicy _ hm1) ?_
      simp only [↓reduceIte]
      exact Ev.now _
    · simp only [h2, ↓reduceIte, show ((-1 : Int) < 0) by omega]
      exact Ev.now _
  · simp only [h1, ↓reduceIte, Option.bind_some, show ((-1 : Int) < 0) by omega]
    exact Ev.now _
end Go.Proofs.Ytppdmcimddhbaaa
