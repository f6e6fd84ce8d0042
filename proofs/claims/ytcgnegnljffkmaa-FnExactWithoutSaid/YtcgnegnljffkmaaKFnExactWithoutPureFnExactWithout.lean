/-
The plain law of Without: the list without one of its words, as the reference tells it; it shares nothing with the argument.
-/
import Derived.Test.YtcgnegnljffkmaaKFnExactWithoutPDx0
import Derived.Test.YtcgnegnljffkmaaKFnExactWithoutPDxo
import Derived.Test.YtcgnegnljffkmaaKFnExactWithoutPDx5
import Derived.Test.YtcgnegnljffkmaaKFnExactWithoutQ17
namespace Go.Proofs.Ytcgnegnljffkmaa
open Go.RowKit Go.Proofs.YtcgnegnljffkmaaW.PrintWords Go.Proofs.YtcgnegnljffkmaaW.PrintLast Go.Proofs.YtcgnegnljffkmaaW.PrintMore Go.Proofs.Ytcgnegnljffkmaa.PD
set_option linter.unusedVariables false
set_option linter.unusedSimpArgs false
theorem Pure.FnExactWithout : ∀ (x0 : List (S25)) (x1 : Int), All G25 x0 → I64 x1 → ∃ k, laws_FnExactWithout.f k x0 x1 = some true := by
  intro x0 x1 hg _
  have hl : x0.length ≤ 9223372036854775807 := hg.1
  refine Q.Ev.get (g := fun k => laws_FnExactWithout.f k x0 x1) ?_
  unfold laws_FnExactWithout.f
  rw [Q.szCreds _ hl]
  by_cases h1 : x0.length ≤ 1048576
  · simp only [h1, ↓reduceIte, Option.bind_some, show ¬ ((1048576 : Int) - (x0.length : Int) < 0) by omega]
    have hm : (x0.map Q.toC).length ≤ 1048576 := by rw [List.length_map]; exact h1
    have hf := Q.withoutL_len (x0.map Q.toC) x1
    refine Ev.bind (Q.toCreds _ h1) ?_
    refine Ev.bind (Q.spec_Wo _ x1 hm) ?_
    refine Ev.bind (Q.toCreds _ h1) ?_
    simp only [Q.impl_Wo _ x1 hm, Option.bind_some]
    refine Ev.bind (Q.eqCreds _ (by omega)) ?_
    simp only [↓reduceIte]
    refine Ev.bind (Q.toCreds _ h1) ?_
    refine Ev.bind (Q.eqCreds _ hm) ?_
    simp only [↓reduceIte]
    refine Ev.bind (Q.markCreds _ hm) ?_
    simp only [show ¬ ((1 : Int) + 10 * ((x0.map Q.toC).length : Int) < 0) by omega, ↓reduceIte]
    refine Ev.bind (Q.eqCreds _ (by omega)) ?_
    refine Q.Ev.succ ?_
    simp only [laws_FnExactWithout.j0, Bool.not_true, Bool.false_eq_true, ↓reduceIte]
    refine Ev.bind (Q.markCreds _ (by omega)) ?_
    refine Ev.bind (Q.heldCreds _ (by omega)) ?_
    simp only [show ¬ ((1 : Int) + 10 * ((Q.withoutL (x0.map Q.toC) x1).length : Int) < 0) by omega, ↓reduceIte]
    refine Ev.bind (Q.toCreds _ h1) ?_
    simp only [Q.impl_Wo _ x1 hm, Option.bind_some]
    refine Ev.bind (Q.eqCreds _ (by omega)) ?_
    simp only [↓reduceIte]
    refine Ev.bind (Q.heldCreds _ (by omega)) ?_
    simp only [show ¬ ((1 : Int) + 10 * ((Q.withoutL (x0.map Q.toC) x1).length : Int) < 0) by omega, ↓reduceIte]
    exact Ev.now _
  · simp only [h1, ↓reduceIte, Option.bind_some, show ((-1 : Int) < 0) by omega]
    exact Ev.now _
end Go.Proofs.Ytcgnegnljffkmaa
