/-
Words held as they were marked; a list of words without one of them, by the reference and by the program.
-/
import Derived.Test.YtjpjidgfcljpcaaKMPAx22
import Derived.Test.YtjpjidgfcljpcaaKMPAx24
import Derived.Test.YtjpjidgfcljpcaaKMQ27
namespace Go.Proofs.Ytjpjidgfcljpcaa
open Go.RowKit Go.Proofs.YtjpjidgfcljpcaaW.PrintWords Go.Proofs.YtjpjidgfcljpcaaW.PrintLast Go.Proofs.YtjpjidgfcljpcaaW.PrintMore Go.Proofs.Ytjpjidgfcljpcaa.PA
set_option linter.unusedVariables false
set_option linter.unusedSimpArgs false
namespace Q
theorem heldCreds_ (n : Nat) : ∀ (pre : List Cr) (m : Int), pre.length + n ≤ 1048576 → 0 ≤ m → m + 10 * n ≤ 4611686018427387904 →
  Ev (fun k => laws_heldCredS.l0 k (pre ++ marksC n m) m pre.length) (m + 10 * n) := by
 induction n with
 | zero =>
  intro pre m h2 h3 h4
  refine Ev.succ ?_
  simp only [laws_heldCredS.l0, marksC, List.append_nil, Int.lt_irrefl, ↓reduceIte]
  simpa using Ev.now m
 | succ n ih =>
  intro pre m h2 h3 h4
  refine Ev.succ ?_
  have hi : pre.length < (pre ++ marksC (n + 1) m).length := by simp [marksC]
  have e0 : (pre ++ marksC (n + 1) m).getD pre.length z56 = ⟨m, ⟨m + 1, m + 2⟩, m + 3, ⟨m + 4, m + 5⟩, ⟨m + 6, m + 7⟩, m + 8, m + 9⟩ := by simp [marksC]
  simp only [laws_heldCredS.l0, nat_lt, nat_0, hi, ↓reduceIte, rd_T56, Int.toNat_natCast, e0, up_ (show pre.length < 4611686018427387904 by omega)]
  rw [w64 (n := m + 1) (by omega) (by omega), w64 (n := m + 1 + 1) (by omega) (by omega), w64 (n := m + 1 + 1 + 1) (by omega) (by omega), w64 (n := m + 1 + 1 + 1 + 1) (by omega) (by omega), w64 (n := m + 1 + 1 + 1 + 1 + 1) (by omega) (by omega), w64 (n := m + 1 + 1 + 1 + 1 + 1 + 1) (by omega) (by omega), w64 (n := m + 1 + 1 + 1 + 1 + 1 + 1 + 1) (by omega) (by omega), w64 (n := m + 1 + 1 + 1 + 1 + 1 + 1 + 1 + 1) (by omega) (by omega), w64 (n := m + 1 + 1 + 1 + 1 + 1 + 1 + 1 + 1 + 1) (by omega) (by omega), w64 (n := m + 1 + 1 + 1 + 1 + 1 + 1 + 1 + 1 + 1 + 1) (by omega) (by omega)]
  have q0 : m + 1 + 1 = m + 2 ∧ m + 2 + 1 = m + 3 ∧ m + 3 + 1 = m + 4 ∧ m + 4 + 1 = m + 5 ∧ m + 5 + 1 = m + 6 ∧ m + 6 + 1 = m + 7 ∧ m + 7 + 1 = m + 8 ∧ m + 8 + 1 = m + 9 ∧ m + 9 + 1 = m + 10 := by omega
  obtain ⟨e1, e2, e3, e4, e5, e6, e7, e8, e9⟩ := q0
  rw [e1, e2, e3, e4, e5, e6, e7, e8, e9]
  simp only [↓reduceIte]
  have := ih (pre ++ [⟨m, ⟨m + 1, m + 2⟩, m + 3, ⟨m + 4, m + 5⟩, ⟨m + 6, m + 7⟩, m + 8, m + 9⟩]) (m + 10) (by simp; omega) (by omega) (by omega)
  simp only [List.length_append, List.length_singleton] at this
  have q2 : m + 10 * ((n + 1 : Nat) : Int) = m + 10 + 10 * (n : Int) := by omega
  have q3 : pre ++ marksC (n + 1) m = pre ++ [(⟨m, ⟨m + 1, m + 2⟩, m + 3, ⟨m + 4, m + 5⟩, ⟨m + 6, m + 7⟩, m + 8, m + 9⟩ : Cr)] ++ marksC n (m + 10) := by simp [marksC]
  rw [q2, q3]
  exact this
theorem heldCreds (n : Nat) (h : n ≤ 1048576) : Ev (fun k => laws_heldCredS.f k (marksC n 1) 1) (1 + 10 * (n : Int)) := by
 have := heldCreds_ n [] 1 (by simpa using h) (by omega) (by omega)
 simpa [laws_heldCredS.f] using this
end Q
end Go.Proofs.Ytjpjidgfcljpcaa
