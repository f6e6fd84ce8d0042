/-
Steps as texts: the reference's and the program's StepText are one plain function.
-/
import Derived.Test.YtppdmcimddhbaaaKFnExactTreeSizePAx0
import Derived.Test.YtppdmcimddhbaaaKFnExactTreeSizePAxo
import Derived.Test.YtppdmcimddhbaaaKFnExactTreeSizePAx3
import Derived.Test.YtppdmcimddhbaaaKFnExactTreeSizePAx5
import Derived.Test.YtppdmcimddhbaaaKFnExactTreeSizePAx8
import Derived.Test.YtppdmcimddhbaaaKFnExactTreeSizeQ4
namespace Go.Proofs.Ytppdmcimddhbaaa
open Go.RowKit Go.Proofs.YtppdmcimddhbaaaW.PrintWords Go.Proofs.YtppdmcimddhbaaaW.PrintLast Go.Proofs.YtppdmcimddhbaaaW.PrintMore Go.Proofs.Ytppdmcimddhbaaa.PA
set_option linter.unusedVariables false
set_option linter.unusedSimpArgs false
namespace Q
theorem toStep_ (k a b w c d e f u n p q s : Int) (l : List Int) (h : l.length ≤ 1048576) : Ev (fun r => laws_toStep.f r k a b w c d e f u n p q s l) (k, a, b, w, c, d, e, f, u, n, p, q, s, l) := by
  unfold laws_toStep.f
  simp only [toCred_, toFact_, Option.bind_some]
  exact Ev.bind (toIntS l h) (Ev.now _)
theorem eqStep_ (k a b w c d e f u n p q s : Int) (l : List Int) (h : l.length ≤ 1048576) : Ev (fun r => laws_eqStep.f r k a b w c d e f u n p q s l k a b w c d e f u n p q s l) true := by
  unfold laws_eqStep.f
  simp only [eqCred_, eqFact_, Option.bind_some, ↓reduceIte]
  refine Ev.bind (eqIntS l h) ?_
  simp only [↓reduceIte]
  exact Ev.now _
theorem szStep_ (k a b w c d e f u n p q s : Int) (l : List Int) (m : Int) (h : l.length ≤ 9223372036854775807) (h0 : 0 ≤ m) (h1 : m ≤ 1048576) : laws_szStep.f k a b w c d e f u n p q s l m = some (if (l.length : Int) ≤ m then m - (l.length : Int) else -1) := by
  unfold laws_szStep.f
  rw [szIntS l m h h0 h1]
  by_cases h2 : (l.length : Int) ≤ m
  · simp only [h2, ↓reduceIte, Option.bind_some, show ¬ (m - (l.length : Int) < 0) by omega]
  · simp only [h2, ↓reduceIte, Option.bind_some]; rfl
end Q
end Go.Proofs.Ytppdmcimddhbaaa
