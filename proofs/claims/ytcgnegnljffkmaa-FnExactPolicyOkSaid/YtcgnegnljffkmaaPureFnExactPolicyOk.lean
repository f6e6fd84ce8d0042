/-
PolicyOk: the law answers true, for every policy.
-/
import Derived.Test.YtcgnegnljffkmaaPAx0
import Derived.Test.YtcgnegnljffkmaaPAxo
import Derived.Test.YtcgnegnljffkmaaPAx8
import Derived.Test.YtcgnegnljffkmaaQ2
namespace Go.Proofs.Ytcgnegnljffkmaa
open Go.RowKit Go.Proofs.YtcgnegnljffkmaaW.PrintWords Go.Proofs.YtcgnegnljffkmaaW.PrintLast Go.Proofs.YtcgnegnljffkmaaW.PrintMore Go.Proofs.Ytcgnegnljffkmaa.PA
set_option linter.unusedVariables false
set_option linter.unusedSimpArgs false
theorem Pure.FnExactPolicyOk : ∀ (x0 : S34), G34 x0 → ∃ k, laws_FnExactPolicyOk.f k x0.f0 = some true := by
  intro x0 hg
  have hl : x0.f0.length ≤ 9223372036854775807 := hg.1
  refine Q.Ev.get (g := fun k => laws_FnExactPolicyOk.f k x0.f0) ?_
  unfold laws_FnExactPolicyOk.f
  rw [Q.szPolicy _ hl]
  by_cases h1 : x0.f0.length ≤ 1048576
  · simp only [h1, ↓reduceIte, Option.bind_some, show ¬ ((1048576 : Int) - (x0.f0.length : Int) < 0) by omega]
    have hm : (x0.f0.map Q.toN).length ≤ 1048576 := by rw [List.length_map]; exact h1
    refine Ev.bind (Q.toPolicy _ h1) ?_
    refine Ev.bind (Q.spec_PolicyOk _ hm) ?_
    refine Ev.bind (Q.toPolicy _ h1) ?_
    refine Ev.bind (Q.impl_PolicyOk _ hm) ?_
    simp only [bne_self_eq_false, Bool.false_eq_true, ↓reduceIte]
    refine Ev.bind (Q.toPolicy _ h1) ?_
    refine Ev.bind (Q.eqPolicy _ hm) ?_
    simp only [↓reduceIte]
    exact Ev.now _
  · simp only [h1, ↓reduceIte, Option.bind_some, show ((-1 : Int) < 0) by omega]
    exact Ev.now _
end Go.Proofs.Ytcgnegnljffkmaa
