/-
The plain law of Rising: the program tells what the reference tells.
-/
import Derived.Test.YtcgnegnljffkmaaKFnExactRisingPEx0
import Derived.Test.YtcgnegnljffkmaaKFnExactRisingPExo
import Derived.Test.YtcgnegnljffkmaaKFnExactRisingPEx6
import Derived.Test.YtcgnegnljffkmaaKFnExactRisingQ20
namespace Go.Proofs.Ytcgnegnljffkmaa
open Go.RowKit Go.Proofs.YtcgnegnljffkmaaW.PrintWords Go.Proofs.YtcgnegnljffkmaaW.PrintLast Go.Proofs.YtcgnegnljffkmaaW.PrintMore Go.Proofs.Ytcgnegnljffkmaa.PE
set_option linter.unusedVariables false
set_option linter.unusedSimpArgs false
theorem Pure.FnExactRising : ∀ (x0 : S34), G34 x0 → ∃ k, laws_FnExactRising.f k x0.f0 = some true := by
  intro x0 hg
  have hl : x0.f0.length ≤ 9223372036854775807 := hg.1
  refine Q.Ev.get (g := fun k => laws_FnExactRising.f k x0.f0) ?_
  unfold laws_FnExactRising.f
  rw [Q.szPolicy _ hl]
  by_cases h1 : x0.f0.length ≤ 1048576
  · have hm : (x0.f0.map Q.toN).length ≤ 1048576 := by rw [List.length_map]; exact h1
    simp only [h1, ↓reduceIte, Option.bind_some, show ¬ ((1048576 : Int) - (x0.f0.length : Int) < 0) by omega]
    refine Ev.bind (Q.toPolicy _ h1) ?_
    refine Ev.bind (Q.spec_Ris _ hm) ?_
    refine Ev.bind (Q.toPolicy _ h1) ?_
    refine Ev.bind (Q.impl_Ris _ hm) ?_
    simp only [bne_self_eq_false, Bool.false_eq_true, ↓reduceIte]
    refine Ev.bind (Q.toPolicy _ h1) ?_
    refine Ev.bind (Q.eqPolicy _ hm) ?_
    simp only [↓reduceIte]
    exact Ev.now _
  · simp only [h1, ↓reduceIte, Option.bind_some, show ((-1 : Int) < 0) by omega]
    exact Ev.now _
end Go.Proofs.Ytcgnegnljffkmaa
