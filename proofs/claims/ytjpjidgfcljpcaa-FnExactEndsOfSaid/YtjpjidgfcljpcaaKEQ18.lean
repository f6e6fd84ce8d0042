/-
Rows of whole numbers as the laws compare, mark and hold them; the words without which somebody is not of a circle.
-/
import Derived.Test.YtjpjidgfcljpcaaKEPAx28
import Derived.Test.YtjpjidgfcljpcaaKEQ26
namespace Go.Proofs.Ytjpjidgfcljpcaa
open Go.RowKit Go.Proofs.YtjpjidgfcljpcaaW.PrintWords Go.Proofs.YtjpjidgfcljpcaaW.PrintLast Go.Proofs.YtjpjidgfcljpcaaW.PrintMore Go.Proofs.Ytjpjidgfcljpcaa.PA
set_option linter.unusedVariables false
set_option linter.unusedSimpArgs false
namespace Q
theorem eqInts (l : List Int) (h : l.length ≤ 1048576) : Ev (fun k => laws_eqIntS.f k l l) true := by
 unfold laws_eqIntS.f
 simp only [↓reduceIte]
 refine Ev.up0 l.length (fun i k => laws_eqIntS.l0 k l l i) (fun _ => true) ?_ ?_ 0 (Nat.zero_le _)
 ·intro i hi hn
  refine Ev.succ ?_
  simp only [laws_eqIntS.l0, nat_lt, nat_0, hi, ↓reduceIte, up_ (show i < 4611686018427387904 by omega)]
  exact hn
 ·refine Ev.succ ?_
  simp only [laws_eqIntS.l0, nat_lt, Nat.lt_irrefl, ↓reduceIte]
  exact Ev.now _
def marksI : Nat → Int → List Int
 | 0, _ => []
 | n + 1, k => k :: marksI n (k + 1)
theorem markInts_ (n : Nat) : ∀ (l pre : List Int) (m : Int), l.length = n → pre.length + n ≤ 1048576 → 0 ≤ m → m + n ≤ 4611686018427387904 →
  Ev (fun k => laws_markIntS.l0 k (pre ++ l) m pre.length) (m + n, pre ++ marksI n m) := by
 induction n with
 | zero =>
  intro l pre m h1 h2 h3 h4
  obtain rfl := List.length_eq_zero_iff.1 h1
  refine Ev.succ ?_
  simp only [laws_markIntS.l0, List.append_nil, Int.lt_irrefl, ↓reduceIte, marksI]
  simpa using Ev.now (m, pre)
 | succ n ih =>
  intro l pre m h1 h2 h3 h4
  obtain ⟨x, xs, rfl⟩ : ∃ x xs, l = x :: xs := by cases l with | nil => simp at h1 | cons x xs => exact ⟨x, xs, rfl⟩
  refine Ev.succ ?_
  have hi : pre.length < (pre ++ x :: xs).length := by simp
  simp only [laws_markIntS.l0, nat_lt, nat_0, hi, ↓reduceIte, Int.toNat_natCast, up_ (show pre.length < 4611686018427387904 by omega)]
  rw [w64 (n := m + 1) (by omega) (by omega)]
  have := ih xs (pre ++ [m]) (m + 1) (by simpa using h1) (by simp; omega) (by omega) (by omega)
  have q1 : (pre ++ x :: xs).set pre.length m = (pre ++ [m]) ++ xs := by simp
  rw [q1]
  simp only [List.length_append, List.length_singleton] at this
  have q2 : (m + ((n + 1 : Nat) : Int), pre ++ marksI (n + 1) m) = (m + 1 + (n : Int), pre ++ [m] ++ marksI n (m + 1)) := by
   simp [marksI]; omega
  rw [q2]
  exact this
theorem markInts (l : List Int) (h : l.length ≤ 1048576) : Ev (fun k => laws_markIntS.f k l 1) (1 + (l.length : Int), marksI l.length 1) := by
 have := markInts_ l.length l [] 1 rfl (by simpa using h) (by omega) (by omega)
 simpa [laws_markIntS.f] using this
theorem heldInts_ (n : Nat) : ∀ (pre : List Int) (m : Int), pre.length + n ≤ 1048576 → 0 ≤ m → m + n ≤ 4611686018427387904 →
  Ev (fun k => laws_heldIntS.l0 k (pre ++ marksI n m) m pre.length) (m + n) := by
 induction n with
 | zero =>
  intro pre m h2 h3 h4
  refine Ev.succ ?_
  simp only [laws_heldIntS.l0, marksI, List.append_nil, Int.lt_irrefl, ↓reduceIte]
  simpa using Ev.now m
 | succ n ih =>
  intro pre m h2 h3 h4
  refine Ev.succ ?_
  have hi : pre.length < (pre ++ marksI (n + 1) m).length := by simp [marksI]
  have e0 : rd (pre ++ marksI (n + 1) m) (pre.length : Int) = m := by simp [rd, marksI]
  simp only [laws_heldIntS.l0, nat_lt, nat_0, hi, ↓reduceIte, e0, up_ (show pre.length < 4611686018427387904 by omega)]
  rw [w64 (n := m + 1) (by omega) (by omega)]
  have := ih (pre ++ [m]) (m + 1) (by simp; omega) (by omega) (by omega)
  simp only [List.length_append, List.length_singleton] at this
  have q2 : m + ((n + 1 : Nat) : Int) = m + 1 + (n : Int) := by omega
  have q3 : pre ++ marksI (n + 1) m = pre ++ [m] ++ marksI n (m + 1) := by simp [marksI]
  rw [q2, q3]
  exact this
theorem heldInts (n : Nat) (h : n ≤ 1048576) : Ev (fun k => laws_heldIntS.f k (marksI n 1) 1) (1 + (n : Int)) := by
 have := heldInts_ n [] 1 (by simpa using h) (by omega) (by omega)
 simpa [laws_heldIntS.f] using this
end Q
end Go.Proofs.Ytjpjidgfcljpcaa
