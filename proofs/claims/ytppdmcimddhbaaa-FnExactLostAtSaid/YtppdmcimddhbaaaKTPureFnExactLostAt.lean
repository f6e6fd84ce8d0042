/-
The plain law of LostAt.
-/
import Derived.Test.YtppdmcimddhbaaaKTPHx13
import Derived.Test.YtppdmcimddhbaaaKTQ36
namespace Go.Proofs.Ytppdmcimddhbaaa
open Go.RowKit Go.Proofs.YtppdmcimddhbaaaW.PrintWords Go.Proofs.YtppdmcimddhbaaaW.PrintLast Go.Proofs.YtppdmcimddhbaaaW.PrintMore Go.Proofs.Ytppdmcimddhbaaa.PH
set_option linter.unusedVariables false
set_option linter.unusedSimpArgs false
theorem Pure.FnExactLostAt : ∀ (x0 : List (S111)) (x1 : Int), All G111 x0 → I64 x1 → ∃ k, laws_FnExactLostAt.f k x0 x1 = some true := by
 intro x0 x1 hg _
 have hl : x0.length ≤ 9223372036854775807 := hg.1
 refine Q.Ev.get (g := fun k => laws_FnExactLostAt.f k x0 x1) ?_
 unfold laws_FnExactLostAt.f
 rw [Q.szCreds _ hl]
 by_cases h1 : x0.length ≤ 1048576
 ·simp only [h1, ↓reduceIte, Option.bind_some, show ¬ ((1048576 : Int) - (x0.length : Int) < 0) by omega]
  have hm : (x0.map Q.toC).length ≤ 1048576 := by rw [List.length_map]; exact h1
  have hf := Q.lostD_len (x0.map Q.toC) x1
  refine Ev.bind (Q.toCreds _ h1) ?_
  refine Ev.bind (Q.spec_Lost _ hm x1) ?_
  refine Ev.bind (Q.toCreds _ h1) ?_
  refine Ev.bind (Q.impl_Lost _ hm x1) ?_
  refine Ev.bind (Q.eqFacts _ (by omega)) ?_
  simp only [↓reduceIte]
  refine Ev.bind (Q.toCreds _ h1) ?_
  refine Ev.bind (Q.eqCreds _ hm) ?_
  simp only [↓reduceIte]
  refine Ev.bind (Q.markCreds _ hm) ?_
  simp only [show ¬ ((1 : Int) + 10 * ((x0.map Q.toC).length : Int) < 0) by omega, ↓reduceIte]
  refine Ev.bind (Q.eqFacts _ (by omega)) ?_
  refine Q.Ev.succ ?_
  simp only [laws_FnExactLostAt.j0, Bool.not_true, Bool.false_eq_true, ↓reduceIte]
  refine Ev.bind (Q.markFacts _ (by omega)) ?_
  refine Ev.bind (Q.heldFacts _ (by omega)) ?_
  simp only [show ¬ ((1 : Int) + 3 * ((Q.lostD (x0.map Q.toC) x1).length : Int) < 0) by omega, ↓reduceIte]
  refine Ev.bind (Q.toCreds _ h1) ?_
  refine Ev.bind (Q.impl_Lost _ hm x1) ?_
  refine Ev.bind (Q.eqFacts _ (by omega)) ?_
  simp only [↓reduceIte]
  refine Ev.bind (Q.heldFacts _ (by omega)) ?_
  simp only [show ¬ ((1 : Int) + 3 * ((Q.lostD (x0.map Q.toC) x1).length : Int) < 0) by omega, ↓reduceIte]
  exact Ev.now _
 ·simp only [h1, ↓reduceIte, Option.bind_some, show ((-1 : Int) < 0) by omega]
  exact Ev.now _
end Go.Proofs.Ytppdmcimddhbaaa
