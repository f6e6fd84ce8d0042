/-
The plain law of FnExactCostsOf.
-/
import Derived.Test.YtjpjidgfcljpcaaKCPCx18
import Derived.Test.YtjpjidgfcljpcaaKCQ35
namespace Go.Proofs.Ytjpjidgfcljpcaa
open Go.RowKit Go.Proofs.YtjpjidgfcljpcaaW.PrintWords Go.Proofs.YtjpjidgfcljpcaaW.PrintLast Go.Proofs.YtjpjidgfcljpcaaW.PrintMore Go.Proofs.Ytjpjidgfcljpcaa.PC
set_option linter.unusedVariables false
set_option linter.unusedSimpArgs false
theorem Pure.FnExactCostsOf : ∀ (x0 : List (S118)), All G118 x0 → ∃ k, laws_FnExactCostsOf.f k x0 = some true := by
 intro x0 hg
 have hl : x0.length ≤ 9223372036854775807 := hg.1
 refine Q.Ev.get (g := fun k => laws_FnExactCostsOf.f k x0) ?_
 unfold laws_FnExactCostsOf.f
 rw [Q.szCreds _ hl]
 by_cases h1 : x0.length ≤ 1048576
 ·simp only [h1, ↓reduceIte, Option.bind_some, show ¬ ((1048576 : Int) - (x0.length : Int) < 0) by omega]
  have hm : (x0.map Q.toC).length ≤ 1048576 := by rw [List.length_map]; exact h1
  obtain ⟨r, hr, e1, e2⟩ := Q.sizes_one (x0.map Q.toC) hm
  have hf : (Q.costL (Q.factsF (x0.map Q.toC)) r).length ≤ 1048576 := by rw [Q.costL_len]; have := Q.factsF_len (x0.map Q.toC); omega
  refine Ev.bind (Q.toCreds _ h1) ?_
  refine Ev.bind (Q.spec_Costs _ hm r hr e2) ?_
  refine Ev.bind (Q.toCreds _ h1) ?_
  refine Ev.bind (Q.impl_Costs _ hm r hr e1) ?_
  refine Ev.bind (Q.eqCosts _ hf) ?_
  simp only [↓reduceIte]
  refine Ev.bind (Q.toCreds _ h1) ?_
  refine Ev.bind (Q.eqCreds _ hm) ?_
  simp only [↓reduceIte]
  refine Ev.bind (Q.markCreds _ hm) ?_
  simp only [show ¬ ((1 : Int) + 10 * ((x0.map Q.toC).length : Int) < 0) by omega, ↓reduceIte]
  refine Ev.bind (Q.eqCosts _ hf) ?_
  refine Q.Ev.succ ?_
  simp only [laws_FnExactCostsOf.j0, Option.bind_some, Bool.not_true, Bool.false_eq_true, ↓reduceIte]
  refine Ev.bind (Q.markCosts _ hf) ?_
  refine Ev.bind (Q.heldCosts _ hf) ?_
  simp only [show ¬ ((1 : Int) + 4 * ((Q.costL (Q.factsF (x0.map Q.toC)) r).length : Int) < 0) by omega, ↓reduceIte]
  refine Ev.bind (Q.toCreds _ h1) ?_
  refine Ev.bind (Q.impl_Costs _ hm r hr e1) ?_
  refine Ev.bind (Q.eqCosts _ hf) ?_
  simp only [↓reduceIte]
  refine Ev.bind (Q.heldCosts _ hf) ?_
  simp only [show ¬ ((1 : Int) + 4 * ((Q.costL (Q.factsF (x0.map Q.toC)) r).length : Int) < 0) by omega, ↓reduceIte]
  exact Ev.now _
 ·simp only [h1, ↓reduceIte, Option.bind_some, show ((-1 : Int) < 0) by omega]
  exact Ev.now _
end Go.Proofs.Ytjpjidgfcljpcaa
