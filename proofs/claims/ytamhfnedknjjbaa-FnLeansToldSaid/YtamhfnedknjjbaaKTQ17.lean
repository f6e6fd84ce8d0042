/-
Words held as they were marked; a list of words without one of them, by the reference and by the program.
-/
import Derived.Test.YtamhfnedknjjbaaKTQ28
namespace Go.Proofs.Ytamhfnedknjjbaa
open Go.RowKit Go.Proofs.YtamhfnedknjjbaaW.PrintWords Go.Proofs.YtamhfnedknjjbaaW.PrintLast Go.Proofs.YtamhfnedknjjbaaW.PrintMore Go.Proofs.Ytamhfnedknjjbaa.PB
set_option linter.unusedVariables false
set_option linter.unusedSimpArgs false
namespace Q
def withoutL (l : List Cr) (a : Int) : List Cr := if 0 ≤ a ∧ a < (l.length : Int) then l.eraseIdx a.toNat else l
theorem withoutL_len (l : List Cr) (a : Int) : (withoutL l a).length ≤ l.length := by
 unfold withoutL
 split
 ·exact List.length_eraseIdx_le _ _
 ·exact Nat.le_refl _
def skipAt (a : Int) : List Cr → Int → List Cr
 | [], _ => []
 | x :: xs, i => if i = a then skipAt a xs (i + 1) else x :: skipAt a xs (i + 1)
theorem skip_lt (a : Int) : ∀ (xs : List Cr) (i : Int), a < i → skipAt a xs i = xs := by
 intro xs
 induction xs with
 | nil => intro i h; rfl
 | cons x xs ih =>
  intro i h
  unfold skipAt
  rw [if_neg (by omega), ih (i + 1) (by omega)]
theorem skip_ge (a : Int) : ∀ (xs : List Cr) (i : Int), i ≤ a → skipAt a xs i = if a < i + (xs.length : Int) then xs.eraseIdx (a - i).toNat else xs := by
 intro xs
 induction xs with
 | nil => intro i h; simp [skipAt]
 | cons x xs ih =>
  intro i h
  unfold skipAt
  by_cases e : i = a
  ·rw [if_pos e, skip_lt a xs (i + 1) (by omega), if_pos (by rw [List.length_cons]; omega)]
   rw [show (a - i).toNat = 0 by omega]
   rfl
  ·rw [if_neg e, ih (i + 1) (by omega), List.length_cons]
   obtain ⟨n, hn⟩ : ∃ n : Nat, (a - i).toNat = n + 1 := ⟨(a - i).toNat - 1, by omega⟩
   by_cases h2 : a < i + 1 + (xs.length : Int)
   ·rw [if_pos h2, if_pos (by omega), hn, show (a - (i + 1)).toNat = n by omega]
    rfl
   ·rw [if_neg h2, if_neg (by omega)]
theorem skip_0 (a : Int) (l : List Cr) : skipAt a l 0 = withoutL l a := by
 unfold withoutL
 by_cases h : 0 ≤ a
 ·rw [skip_ge a l 0 h]
  by_cases h2 : a < (l.length : Int)
  ·rw [if_pos (by omega), if_pos ⟨h, h2⟩, Int.sub_zero]
  ·rw [if_neg (by omega), if_neg (by omega)]
 ·rw [skip_lt a l 0 (by omega), if_neg (by omega)]
theorem spec_Wo (l : List Cr) (a : Int) (h : l.length ≤ 1048576) : Ev (fun k => spec_Without.f k l a) (withoutL l a) := by
 unfold spec_Without.f
 rw [← skip_0]
 have key := Ev.up l.length (fun i (s : List Cr) k => spec_Without.l0 k l a s i) (fun i s => s ++ skipAt a (l.drop i) i) (fun i s => s.length ≤ i) ?_ ?_ 0 [] (Nat.zero_le _) (by simp)
 ·exact key
 ·intro i s hi hs ih
  refine Ev.succ ?_
  simp only [spec_Without.l0, nat_lt, nat_0, hi, ↓reduceIte, rd_T49, getD_ _ hi, getDn_ _ hi, up_ (show i < 4611686018427387904 by omega), show s.length < 1759218604441 by omega]
  rw [List.drop_eq_getElem_cons hi]
  unfold skipAt
  by_cases e : (i : Int) = a
  ·simp only [e, ↓reduceIte]
   have h2 := ih s (by omega)
   rw [← e] at h2 ⊢
   exact h2
  ·simp only [e, ↓reduceIte]
   have h2 := ih (s ++ [l[i]]) (by simp; omega)
   rw [List.append_assoc] at h2
   exact h2
 ·intro s _
  refine Ev.succ ?_
  simp only [spec_Without.l0, nat_lt, Nat.lt_irrefl, ↓reduceIte, List.drop_length]
  simpa [skipAt] using Ev.now s
theorem impl_Wo (l : List Cr) (a : Int) (h : l.length ≤ 1048576) : impl_Without.f l a = some (withoutL l a) := by
 unfold impl_Without.f withoutL
 rw [if_pos (by omega)]
end Q
end Go.Proofs.Ytamhfnedknjjbaa
