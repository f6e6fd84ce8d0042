/-
Draws of words that need not be right, of roles and of days.
-/
import Derived.Test.YtnoklfpnmopkpaaKPQ21
namespace Go.Proofs.Ytnoklfpnmopkpaa
open Go.RowKit Go.Proofs.YtnoklfpnmopkpaaW.PrintWords Go.Proofs.YtnoklfpnmopkpaaW.PrintLast Go.Proofs.YtnoklfpnmopkpaaW.PrintMore Go.Proofs.Ytnoklfpnmopkpaa.PE
set_option linter.unusedVariables false
set_option linter.unusedSimpArgs false
namespace Q
theorem credAny_ {b : List Int} {i : Int} (h : Int) (hc : Cu b i) : ∃ (t : Int × Int × Int × Int × Int × Int × Int × Int × Int × Int) (i' h' : Int), spec_l05Any.f b i h = some (t.1, t.2.1, t.2.2.1, t.2.2.2.1, t.2.2.2.2.1, t.2.2.2.2.2.1, t.2.2.2.2.2.2.1, t.2.2.2.2.2.2.2.1, t.2.2.2.2.2.2.2.2.1, t.2.2.2.2.2.2.2.2.2, i', h') ∧ Cu b i' := by
 unfold spec_l05Any.f
 obtain ⟨v, i1, h1, e1, c1, v0, v1, _⟩ := below_ h hc 10 (by omega)
 obtain ⟨y, i2, h2, e2, c2, y0, y1, _⟩ := below_ h1 c1 60 (by omega)
 obtain ⟨t, i3, h3, e3, c3⟩ := cred_ h2 c2
 have m0 := Int.tmod_nonneg (3 : Int) y0
 have m1 := Int.tmod_lt_of_pos y (show (0 : Int) < 3 by omega)
 simp only [e1, e2, e3, Option.bind_some]
 by_cases k0 : v = 0
 ·simp only [k0, ↓reduceIte]
  exact ⟨(Int.tmod y 6, t.2.1, t.2.2.1, t.2.2.2.1, t.2.2.2.2.1, t.2.2.2.2.2.1, t.2.2.2.2.2.2.1, t.2.2.2.2.2.2.2.1, t.2.2.2.2.2.2.2.2.1, t.2.2.2.2.2.2.2.2.2), _, _, rfl, c3⟩
 ·by_cases k1 : v = 1
  ·simp only [k1, ↓reduceIte, show ¬ (1 : Int) = 0 by omega]
   exact ⟨(t.1, t.2.1, t.2.2.1, wrap64 (Int.tmod y 9 - 1), t.2.2.2.2.1, t.2.2.2.2.2.1, t.2.2.2.2.2.2.1, t.2.2.2.2.2.2.2.1, t.2.2.2.2.2.2.2.2.1, t.2.2.2.2.2.2.2.2.2), _, _, rfl, c3⟩
  ·by_cases k2 : v = 2
   ·simp only [k2, ↓reduceIte, show ¬ (2 : Int) = 0 by omega, show ¬ (2 : Int) = 1 by omega]
    exact ⟨(t.1, t.2.1, t.2.2.1, t.2.2.2.1, Int.tmod y 8, Int.tmod y 5, t.2.2.2.2.2.2.1, t.2.2.2.2.2.2.2.1, t.2.2.2.2.2.2.2.2.1, t.2.2.2.2.2.2.2.2.2), _, _, rfl, c3⟩
   ·by_cases k3 : v = 3
    ·simp only [k3, ↓reduceIte, show ¬ (3 : Int) = 0 by omega, show ¬ (3 : Int) = 1 by omega, show ¬ (3 : Int) = 2 by omega]
     exact ⟨(t.1, t.2.1, t.2.2.1, t.2.2.2.1, t.2.2.2.2.1, t.2.2.2.2.2.1, Int.tmod y 3, t.2.2.2.2.2.2.2.1, t.2.2.2.2.2.2.2.2.1, t.2.2.2.2.2.2.2.2.2), _, _, rfl, c3⟩
    ·by_cases k4 : v = 4
     ·simp only [k4, ↓reduceIte, show ¬ (4 : Int) = 0 by omega, show ¬ (4 : Int) = 1 by omega, show ¬ (4 : Int) = 2 by omega, show ¬ (4 : Int) = 3 by omega, m0, show Int.tmod y 3 < (([0, 10000, 1] : List Int).length : Int) from m1]
      exact ⟨(t.1, t.2.1, t.2.2.1, t.2.2.2.1, t.2.2.2.2.1, t.2.2.2.2.2.1, t.2.2.2.2.2.2.1, t.2.2.2.2.2.2.2.1, rd [0, 10000, 1] (Int.tmod y 3), t.2.2.2.2.2.2.2.2.2), _, _, rfl, c3⟩
     ·simp only [k0, k1, k2, k3, k4, ↓reduceIte]
      exact ⟨(t.1, t.2.1, t.2.2.1, t.2.2.2.1, t.2.2.2.2.1, t.2.2.2.2.2.1, t.2.2.2.2.2.2.1, t.2.2.2.2.2.2.2.1, t.2.2.2.2.2.2.2.2.1, t.2.2.2.2.2.2.2.2.2), _, _, rfl, c3⟩
theorem words_ {b : List Int} {x : Int} (y : Int) (hc : Cu b x) : ∃ (l : List Cr) (x' y' : Int), Ev (fun k => spec_l06Any.f k b x y) (l, x', y') ∧ l.length ≤ 10 ∧ Cu b x' := by
 obtain ⟨l, x1, y1, e1, hl, c1⟩ := creds_ (b := b) 9 0 [] x y rfl (by omega) rfl hc
 obtain ⟨v, x2, y2, e2, c2, _⟩ := below_ y1 c1 4 (by omega)
 have eo : spec_l01Once.f b x1 y1 4 = some (v == 0, x2, y2) := by unfold spec_l01Once.f; rw [e2]; rfl
 cases hb : (v == 0)
 ·refine ⟨l, x2, y2, ?_, by omega, c2⟩
  unfold spec_l06Any.f spec_l06Creds.f
  refine Ev.bind e1 ?_
  simp only [eo, hb, Option.bind_some, Bool.false_eq_true, ↓reduceIte]
  exact Ev.now _
 ·obtain ⟨t, x3, y3, e3, c3⟩ := credAny_ y2 c2
  refine ⟨l ++ [⟨t.1, ⟨t.2.1, t.2.2.1⟩, t.2.2.2.1, ⟨t.2.2.2.2.1, t.2.2.2.2.2.1⟩, ⟨t.2.2.2.2.2.2.1, t.2.2.2.2.2.2.2.1⟩, t.2.2.2.2.2.2.2.2.1, t.2.2.2.2.2.2.2.2.2⟩], x3, y3, ?_, by simp; omega, c3⟩
  unfold spec_l06Any.f spec_l06Creds.f
  refine Ev.bind e1 ?_
  simp only [eo, hb, e3, Option.bind_some, ↓reduceIte, show l.length < 1759218604441 by omega]
  exact Ev.now _
end Q
end Go.Proofs.Ytnoklfpnmopkpaa
