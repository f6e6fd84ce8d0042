/-
Rows of whole numbers as the laws compare, mark and hold them; the words without which somebody is not of a circle.
-/
import Derived.Test.YtppdmcimddhbaaaKFnExactCriticalPDx0
import Derived.Test.YtppdmcimddhbaaaKFnExactCriticalPDxo
import Derived.Test.YtppdmcimddhbaaaKFnExactCriticalPDx11
import Derived.Test.YtppdmcimddhbaaaKFnExactCriticalPDx6
import Derived.Test.YtppdmcimddhbaaaKFnExactCriticalQ17
namespace Go.Proofs.Ytppdmcimddhbaaa
open Go.RowKit Go.Proofs.YtppdmcimddhbaaaW.PrintWords Go.Proofs.YtppdmcimddhbaaaW.PrintLast Go.Proofs.YtppdmcimddhbaaaW.PrintMore Go.Proofs.Ytppdmcimddhbaaa.PD
set_option linter.unusedVariables false
set_option linter.unusedSimpArgs false
namespace Q
theorem eqInts (l : List Int) (h : l.length ≤ 1048576) : Ev (fun k => laws_eqIntS.f k l l) true := by
  unfold laws_eqIntS.f
  simp only [↓reduceIte]
  refine Ev.up0 l.length (fun i k => laws_eqIntS.l0 k l l i) (fun _ => true) ?_ ?_ 0 (Nat.zero_le _)
  · intro i hi hn
    refine Ev.succ ?_
    simp only [laws_eqIntS.l0, nat_lt, nat_0, hi, ↓reduceIte, up_ (show i < 4611686018427387904 by omega)]
    exact hn
  · refine Ev.succ ?_
    simp only [laws_eqIntS.l0, nat_lt, Nat.lt_irrefl, ↓reduceIte]
    exact Ev.now _
def marksI : Nat → Int → List Int
  | 0, _ => []
  | n + 1, k => k :: marksI n (k + 1)
theorem markInts_ (n : Nat) : ∀ (l pre : List Int) (m : Int), l.length = n → pre.length + n ≤ 1048576 → 0 ≤ m → m + n ≤ 4611686018427387904 →
    Ev (fun k => laws_markIntS.l0 k (pre ++ l) m pre.length) (m + n, pre ++ marksI n m) := by
  induction n with
  | zero =>
    intro l pre m h1 h2 h3 h4
    obtain rfl := List.length_eq_zero_iff.1 h1
    refine Ev.succ ?_
    simp only [laws_markIntS.l0, List.append_nil, Int.lt_irrefl, ↓reduceIte, marksI]
    simpa using Ev.now (m, pre)
  | succ n ih =>
    intro l pre m h1 h2 h3 h4
    obtain ⟨x, xs, rfl⟩ : ∃ x xs, l = x :: xs := by cases l with | nil => simp at h1 | cons x xs => exact ⟨x, xs, rfl⟩
    refine Ev.succ ?_
    have hi : pre.length < (pre ++ x :: xs).length := by simp
    simp only [laws_markIntS.l0, nat_lt, nat_0, hi, ↓reduceIte, Int.toNat_natCast, up_ (show pre.length < 4611686018427387904 by omega)]
    rw [w64 (n := m + 1) (by omega) (by omega)]
    have := ih xs (pre ++ [m]) (m + 1) (by simpa using h1) (by simp; omega) (by omega) (by omega)
    have q1 : (pre ++ x :: xs).set pre.length m = (pre ++ [m]) ++ xs := by simp
    rw [q1]
    simp only [List.length_append, List.length_singleton] at this
    have q2 : (m + ((n + 1 : Nat) : Int), pre ++ marksI (n + 1) m) = (m + 1 + (n : Int), pre ++ [m] ++ marksI n (m + 1)) := by
      simp [marksI]; omega
    rw [q2]
    exact this
theorem markInts (l : List Int) (h : l.length ≤ 1048576) : Ev (fun k => laws_markIntS.f k l 1) (1 + (l.length : Int), marksI l.length 1) := by
  have := markInts_ l.length l [] 1 rfl (by simpa using h) (by omega) (by omega)
  simpa [laws_markIntS.f] using this
theorem heldInts_ (n : Nat) : ∀ (pre : List Int) (m : Int), pre.length + n ≤ 1048576 → 0 ≤ m → m + n ≤ 4611686018427387904 →
    Ev (fun k => laws_heldIntS.l0 k (pre ++ marksI n m) m pre.length) (m + n) := by
  induction n with
  | zero =>
    intro pre m h2 h3 h4
    refine Ev.succ ?_
    simp only [laws_heldIntS.l0, marksI, List.append_nil, Int.lt_irrefl, ↓reduceIte]
    simpa using Ev.now m
  | succ n ih =>
    intro pre m h2 h3 h4
    refine Ev.succ ?_
    have hi : pre.length < (pre ++ marksI (n + 1) m).length := by simp [marksI]
    have e0 : rd (pre ++ marksI (n + 1) m) (pre.length : Int) = m := by simp [rd, marksI]
    simp only [laws_heldIntS.l0, nat_lt, nat_0, hi, ↓reduceIte, e0, up_ (show pre.length < 4611686018427387904 by omega)]
    rw [w64 (n := m + 1) (by omega) (by omega)]
    have := ih (pre ++ [m]) (m + 1) (by simp; omega) (by omega) (by omega)
    simp only [List.length_append, List.length_singleton] at this
    have q2 : m + ((n + 1 : Nat) : Int) = m + 1 + (n : Int) := by omega
    have q3 : pre ++ marksI (n + 1) m = pre ++ [m] ++ marksI n (m + 1) := by simp [marksI]
    rw [q2, q3]
    exact this
theorem heldInts (n : Nat) (h : n ≤ 1048576) : Ev (fun k => laws_heldIntS.f k (marksI n 1) 1) (1 + (n : Int)) := by
  have := heldInts_ n [] 1 (by simpa using h) (by omega) (by omega)
  simpa [laws_heldIntS.f] using this
def critAt (l : List Cr) (r : Rl) (w : Int) (i n : Nat) : List Int := ((List.range' i n).filter fun j : Nat => !memF (withoutL l (j : Int)) r w).map fun j : Nat => (j : Int)
def critL (l : List Cr) (r : Rl) (w : Int) : List Int := if memF l r w = true then critAt l r w 0 l.length else []
theorem critL_len (l : List Cr) (r : Rl) (w : Int) : (critL l r w).length ≤ l.length := by
  unfold critL critAt
  split
  · rw [List.length_map]
    exact Nat.le_trans (List.length_filter_le _ _) (by simp)
  · simp
theorem crit_step (l : List Cr) (r : Rl) (w : Int) {i : Nat} (hi : i < l.length) : critAt l r w i (l.length - i) = (if memF (withoutL l (i : Int)) r w = true then critAt l r w (i + 1) (l.length - (i + 1)) else (i : Int) :: critAt l r w (i + 1) (l.length - (i + 1))) := by
  unfold critAt
  rw [show l.length - i = (l.length - (i + 1)) + 1 by omega, List.range'_succ]
  cases h : memF (withoutL l (i : Int)) r w
  · simp [h]
  · simp [h]
theorem spec_Crit (l : List Cr) (h : l.length ≤ 1048576) (a b w : Int) : Ev (fun k => spec_Critical.f k l a b w) (critL l ⟨a, b⟩ w) := by
  unfold spec_Critical.f critL
  simp only [Option.bind_some]
  refine Ev.bind (spec_Mem l h a b w) ?_
  cases hm : memF l ⟨a, b⟩ w
  · simp only [Bool.false_eq_true, ↓reduceIte]
    exact Ev.now _
  · simp only [↓reduceIte]
    have key := Ev.up l.length (fun i (s : List Int) k => spec_Critical.l0 k l w s i a b) (fun i s => s ++ critAt l ⟨a, b⟩ w i (l.length - i)) (fun i s => s.length ≤ i) ?_ ?_ 0 [] (Nat.zero_le _) (by simp)
    · exact key
    · intro i s hi hs ih
      refine Ev.succ ?_
      simp only [spec_Critical.l0, nat_lt, hi, ↓reduceIte, up_ (show i < 4611686018427387904 by omega), show s.length < 17592186044416 by omega]
      refine Ev.bind (spec_Wo l i h) ?_
      have := withoutL_len l (i : Int)
      refine Ev.bind (spec_Mem _ (by omega) a b w) ?_
      rw [crit_step l ⟨a, b⟩ w hi]
      cases hq : memF (withoutL l (i : Int)) ⟨a, b⟩ w
      · simp only [Bool.false_eq_true, ↓reduceIte]
        have h2 := ih (s ++ [(i : Int)]) (by simp; omega)
        rw [List.append_assoc] at h2
        exact h2
      · simp only [↓reduceIte]
        exact ih s (by omega)
    · intro s _
      refine Ev.succ ?_
      simp only [spec_Critical.l0, nat_lt, Nat.lt_irrefl, ↓reduceIte, Nat.sub_self]
      simpa [critAt] using Ev.now s
theorem impl_Crit (l : List Cr) (h : l.length ≤ 1048576) (a b w : Int) : Ev (fun k => impl_Critical.f k l a b w) (critL l ⟨a, b⟩ w) := by
  unfold impl_Critical.f critL
  simp only [Option.bind_some]
  refine Ev.bind (impl_Mem l h a b w) ?_
  cases hm : memF l ⟨a, b⟩ w
  · simp only [Bool.false_eq_true, ↓reduceIte]
    exact Ev.now _
  · simp only [↓reduceIte]
    have key := Ev.up l.length (fun i (s : List Int) k => impl_Critical.l0 k l w s l.length i a b) (fun i s => s ++ critAt l ⟨a, b⟩ w i (l.length - i)) (fun i s => s.length ≤ i) ?_ ?_ 0 [] (Nat.zero_le _) (by simp)
    · exact key
    · intro i s hi hs ih
      refine Ev.succ ?_
      simp only [impl_Critical.l0, nat_lt, hi, ↓reduceIte, up_ (show i < 4611686018427387904 by omega), show s.length < 17592186044416 by omega, impl_Wo l i h, Option.bind_some]
      have := withoutL_len l (i : Int)
      refine Ev.bind (impl_Mem _ (by omega) a b w) ?_
      rw [crit_step l ⟨a, b⟩ w hi]
      cases hq : memF (withoutL l (i : Int)) ⟨a, b⟩ w
      · simp only [Bool.false_eq_true, ↓reduceIte]
        have h2 := ih (s ++ [(i : Int)]) (by simp; omega)
        rw [List.append_assoc] at h2
        exact h2
      · simp only [↓reduceIte]
        exact ih s (by omega)
    · intro s _
      refine Ev.succ ?_
      simp only [impl_Critical.l0, nat_lt, Nat.lt_irrefl, ↓reduceIte, Nat.sub_self]
      simpa [critAt] using Ev.now s
end Q
end Go.Proofs.Ytppdmcimddhbaaa
