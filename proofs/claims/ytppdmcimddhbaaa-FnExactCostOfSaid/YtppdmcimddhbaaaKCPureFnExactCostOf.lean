/-
The plain law of FnExactCostOf.
-/
import Derived.Test.YtppdmcimddhbaaaKCQ34
namespace Go.Proofs.Ytppdmcimddhbaaa
open Go.RowKit Go.Proofs.YtppdmcimddhbaaaW.PrintWords Go.Proofs.YtppdmcimddhbaaaW.PrintLast Go.Proofs.YtppdmcimddhbaaaW.PrintMore Go.Proofs.Ytppdmcimddhbaaa.PG
set_option linter.unusedVariables false
set_option linter.unusedSimpArgs false
theorem Pure.FnExactCostOf : ∀ (x0 : List (S111)) (x1 : S58) (x2 : Int), All G111 x0 → G58 x1 → I64 x2 → ∃ k, laws_FnExactCostOf.f k x0 x1.f0 x1.f1 x2 = some true := by
 intro x0 x1 x2 hg _ _
 have hl : x0.length ≤ 9223372036854775807 := hg.1
 refine Q.Ev.get (g := fun k => laws_FnExactCostOf.f k x0 x1.f0 x1.f1 x2) ?_
 unfold laws_FnExactCostOf.f
 rw [Q.szCreds _ hl]
 by_cases h1 : x0.length ≤ 1048576
 ·simp only [h1, ↓reduceIte, laws_toRole.f, Option.bind_some, show ¬ ((1048576 : Int) - (x0.length : Int) < 0) by omega]
  have hm : (x0.map Q.toC).length ≤ 1048576 := by rw [List.length_map]; exact h1
  obtain ⟨r, hr, e1, e2⟩ := Q.sizes_one (x0.map Q.toC) hm
  refine Ev.bind (Q.toCreds _ h1) ?_
  refine Ev.bind (Q.spec_cost1 _ hm r hr e2 _ _ _) ?_
  refine Ev.bind (Q.toCreds _ h1) ?_
  refine Ev.bind (Q.impl_cost1 _ hm r hr e1 _ _ _) ?_
  simp only [↓reduceIte]
  refine Ev.bind (Q.toCreds _ h1) ?_
  refine Ev.bind (Q.eqCreds _ hm) ?_
  simp only [↓reduceIte]
  exact Ev.now _
 ·simp only [h1, ↓reduceIte, Option.bind_some, show ((-1 : Int) < 0) by omega]
  exact Ev.now _
end Go.Proofs.Ytppdmcimddhbaaa
