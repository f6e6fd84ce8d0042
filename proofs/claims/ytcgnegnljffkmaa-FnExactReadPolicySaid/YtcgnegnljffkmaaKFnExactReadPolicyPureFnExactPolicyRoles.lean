/-
Circles in lists: looked for, put behind others once, marked and held; the circles of a policy.
-/
import Derived.Test.YtcgnegnljffkmaaKFnExactReadPolicyPAx0
import Derived.Test.YtcgnegnljffkmaaKFnExactReadPolicyZOpen
import Derived.Test.YtcgnegnljffkmaaKFnExactReadPolicyPAx1
import Derived.Test.YtcgnegnljffkmaaKFnExactReadPolicyPAx10
import Derived.Test.YtcgnegnljffkmaaKFnExactReadPolicyPAx3
import Derived.Test.YtcgnegnljffkmaaKFnExactReadPolicyPAx4
import Derived.Test.YtcgnegnljffkmaaKFnExactReadPolicyPAx6
import Derived.Test.YtcgnegnljffkmaaKFnExactReadPolicyPAx5
import Derived.Test.YtcgnegnljffkmaaKFnExactReadPolicyPAx17
import Derived.Test.YtcgnegnljffkmaaKFnExactReadPolicyPAx7
import Derived.Test.YtcgnegnljffkmaaKFnExactReadPolicyPureFnExactPolicyText
namespace Go.Proofs.Ytcgnegnljffkmaa
open Go.RowKit Go.Proofs.YtcgnegnljffkmaaW.PrintWords Go.Proofs.YtcgnegnljffkmaaW.PrintLast Go.Proofs.YtcgnegnljffkmaaW.PrintMore Go.Proofs.Ytcgnegnljffkmaa.PA
set_option linter.unusedVariables false
set_option linter.unusedSimpArgs false
namespace Q
theorem rd_set {α : Type} (l : List α) (i : Nat) (h : i < l.length) (x z : α) : (l.set i x).getD i z = x := by simp [h]
theorem set_set {α : Type} (l : List α) (i : Nat) (x y : α) : (l.set i x).set i y = l.set i y := by simp
def marksN : Nat → Int → List Node
  | 0, _ => []
  | n + 1, k => ⟨k, ⟨k + 1, k + 2⟩, k + 3, k + 4⟩ :: marksN n (k + 5)
theorem markPolNodeS_ (n : Nat) : ∀ (l pre : List Node) (m : Int), l.length = n → pre.length + n ≤ 1048576 → 0 ≤ m → m + 5 * n ≤ 4611686018427387904 →
    Ev (fun k => laws_markPolNodeS.l0 k (pre ++ l) m pre.length) (m + 5 * n, pre ++ marksN n m) := by
  induction n with
  | zero =>
    intro l pre m h1 h2 h3 h4
    obtain rfl := List.length_eq_zero_iff.1 h1
    refine Ev.succ ?_
    simp only [laws_markPolNodeS.l0, List.append_nil, Int.lt_irrefl, ↓reduceIte, marksN]
    simpa using Ev.now (m, pre)
  | succ n ih =>
    intro l pre m h1 h2 h3 h4
    obtain ⟨x, xs, rfl⟩ : ∃ x xs, l = x :: xs := by cases l with | nil => simp at h1 | cons x xs => exact ⟨x, xs, rfl⟩
    refine Ev.succ ?_
    have hi : pre.length < (pre ++ x :: xs).length := by simp
    simp only [laws_markPolNodeS.l0, nat_lt, nat_0, hi, ↓reduceIte, Option.bind_some, rd_T105, Int.toNat_natCast, rd_set _ _ hi, set_set, up_ (show pre.length < 4611686018427387904 by omega)]
    rw [w64 (n := m + 1) (by omega) (by omega), w64 (n := m + 1 + 1) (by omega) (by omega), w64 (n := m + 1 + 1 + 1) (by omega) (by omega), w64 (n := m + 1 + 1 + 1 + 1) (by omega) (by omega), w64 (n := m + 1 + 1 + 1 + 1 + 1) (by omega) (by omega)]
    have e1 : (pre ++ x :: xs).set pre.length (⟨m, ⟨m + 1, m + 1 + 1⟩, m + 1 + 1 + 1, m + 1 + 1 + 1 + 1⟩ : Node) = (pre ++ [⟨m, ⟨m + 1, m + 2⟩, m + 3, m + 4⟩]) ++ xs := by
      rw [show m + 1 + 1 = m + 2 by omega, show m + 2 + 1 = m + 3 by omega, show m + 3 + 1 = m + 4 by omega]; simp
    have := ih xs (pre ++ [⟨m, ⟨m + 1, m + 2⟩, m + 3, m + 4⟩]) (m + 5) (by simpa using h1) (by simp; omega) (by omega) (by omega)
    rw [e1, show m + 1 + 1 + 1 + 1 + 1 = m + 5 by omega]
    simp only [List.length_append, List.length_singleton] at this
    have e2 : (m + 5 * ((n + 1 : Nat) : Int), pre ++ marksN (n + 1) m) = (m + 5 + 5 * (n : Int), pre ++ [(⟨m, ⟨m + 1, m + 2⟩, m + 3, m + 4⟩ : Node)] ++ marksN n (m + 5)) := by
      simp [marksN]; omega
    rw [e2]
    exact this
theorem markPolicy (l : List Node) (h : l.length ≤ 1048576) : Ev (fun k => laws_markPolicy.f k l 1) (1 + 5 * (l.length : Int), marksN l.length 1) := by
  unfold laws_markPolicy.f
  refine Ev.bind (a := (1 + 5 * (l.length : Int), marksN l.length 1)) ?_ (Ev.now _)
  have := markPolNodeS_ l.length l [] 1 rfl (by simpa using h) (by omega) (by omega)
  simpa [laws_markPolNodeS.f] using this
end Q
end Go.Proofs.Ytcgnegnljffkmaa
