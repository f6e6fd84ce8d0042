/-
The plain law of HoldsAt: what holds at a time by the program holds by the reference, and no more.
-/
import Derived.Test.YtcgnegnljffkmaaKFnExactHoldsAtPBx0
import Derived.Test.YtcgnegnljffkmaaKFnExactHoldsAtPBxo
import Derived.Test.YtcgnegnljffkmaaKFnExactHoldsAtPBx26
import Derived.Test.YtcgnegnljffkmaaKFnExactHoldsAtPBx3
import Derived.Test.YtcgnegnljffkmaaKFnExactHoldsAtQ15
namespace Go.Proofs.Ytcgnegnljffkmaa
open Go.RowKit Go.Proofs.YtcgnegnljffkmaaW.PrintWords Go.Proofs.YtcgnegnljffkmaaW.PrintLast Go.Proofs.YtcgnegnljffkmaaW.PrintMore Go.Proofs.Ytcgnegnljffkmaa.PB
set_option linter.unusedVariables false
set_option linter.unusedSimpArgs false
theorem Pure.FnExactHoldsAt : ∀ (x0 : List (S25)) (x1 : S23) (x2 : Int) (x3 : Int), All G25 x0 → G23 x1 → I64 x2 → I64 x3 → ∃ k, laws_FnExactHoldsAt.f k x0 x1.f0 x1.f1 x2 x3 = some true := by
  intro x0 x1 x2 x3 hg _ _ _
  have hl : x0.length ≤ 9223372036854775807 := hg.1
  refine Q.Ev.get (g := fun k => laws_FnExactHoldsAt.f k x0 x1.f0 x1.f1 x2 x3) ?_
  unfold laws_FnExactHoldsAt.f
  rw [Q.szCreds _ hl]
  by_cases h1 : x0.length ≤ 1048576
  · simp only [h1, ↓reduceIte, Option.bind_some, show ¬ ((1048576 : Int) - (x0.length : Int) < 0) by omega]
    have hm : (x0.map Q.toC).length ≤ 1048576 := by rw [List.length_map]; exact h1
    refine Ev.bind (Q.toCreds _ h1) ?_
    simp only [laws_toRole.f, Option.bind_some]
    refine Ev.bind (Q.spec_Holds _ hm _ _ _ _) ?_
    refine Ev.bind (Q.toCreds _ h1) ?_
    refine Ev.bind (Q.impl_Holds _ hm _ _ _ _) ?_
    simp only [bne_self_eq_false, Bool.false_eq_true, ↓reduceIte]
    refine Ev.bind (Q.toCreds _ h1) ?_
    refine Ev.bind (Q.eqCreds _ hm) ?_
    simp only [↓reduceIte]
    exact Ev.now _
  · simp only [h1, ↓reduceIte, Option.bind_some, show ((-1 : Int) < 0) by omega]
    exact Ev.now _
end Go.Proofs.Ytcgnegnljffkmaa
