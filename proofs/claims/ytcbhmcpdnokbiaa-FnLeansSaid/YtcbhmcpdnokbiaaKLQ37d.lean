/-
Draws of a fact and of places, and a fact found in a list.
-/
import Derived.Test.YtcbhmcpdnokbiaaKLQ21
namespace Go.Proofs.Ytcbhmcpdnokbiaa
open Go.RowKit Go.Proofs.YtcbhmcpdnokbiaaW.PrintWords Go.Proofs.YtcbhmcpdnokbiaaW.PrintLast Go.Proofs.YtcbhmcpdnokbiaaW.PrintMore Go.Proofs.Ytcbhmcpdnokbiaa.PA
set_option linter.unusedVariables false
set_option linter.unusedSimpArgs false
namespace Q
theorem below4_ {b : List Int} {i : Int} (h : Int) (hc : Cu b i) (n : Int) (hn : 256 < n) : ∃ v i' h', spec_l01Below.f b i h n = some (v, i', h') ∧ Cu b i' ∧ 0 ≤ v := by
 unfold spec_l01Below.f
 rw [if_neg (by omega), if_neg (by omega)]
 obtain ⟨v1, i1, h1, e1, a1, b1, c1⟩ := byte_ h hc
 obtain ⟨v2, i2, h2, e2, a2, b2, c2⟩ := byte_ h1 c1
 obtain ⟨v3, i3, h3, e3, a3, b3, c3⟩ := byte_ h2 c2
 obtain ⟨v4, i4, h4, e4, a4, b4, c4⟩ := byte_ h3 c3
 simp only [e1, e2, e3, e4, Option.bind_some, show ¬ n = 0 by omega, ↓reduceIte]
 rw [w64 (n := v1 * 16777216) (by omega) (by omega), w64 (n := v2 * 65536) (by omega) (by omega), w64 (n := v3 * 256) (by omega) (by omega), w64 (n := v1 * 16777216 + v2 * 65536) (by omega) (by omega), w64 (n := v1 * 16777216 + v2 * 65536 + v3 * 256) (by omega) (by omega), w64 (n := v1 * 16777216 + v2 * 65536 + v3 * 256 + v4) (by omega) (by omega)]
 exact ⟨_, _, _, rfl, c4, Int.tmod_nonneg _ (by omega)⟩
theorem places_loop {b : List Int} : ∀ (d i : Nat) (acc : List Int) (x y : Int), 12 - i = d → i ≤ 12 → acc.length = i → (∀ z ∈ acc, 0 ≤ z) → Cu b x → ∃ p, Ev (fun k => spec_DrawPlaces.l0 k acc i b x y) p ∧ p.length = 12 ∧ ∀ z ∈ p, 0 ≤ z := by
 intro d
 induction d with
 | zero =>
  intro i acc x y hd hi ha hp hc
  refine ⟨acc, Ev.succ ?_, by omega, hp⟩
  simp only [spec_DrawPlaces.l0, show ¬ ((i : Int) < 12) by omega, ↓reduceIte]
  exact Ev.now _
 | succ d ih =>
  intro i acc x y hd hi ha hp hc
  obtain ⟨v, x1, y1, e1, c1, v0⟩ := below4_ y hc 10000 (by omega)
  obtain ⟨p, e, h1, h2⟩ := ih (i + 1) (acc ++ [v]) x1 y1 (by omega) (by omega) (by simp [ha]) (fun z hz => by
   rcases List.mem_append.1 hz with hz | hz
   ·exact hp z hz
   ·rw [List.mem_singleton.1 hz]; exact v0) c1
  refine ⟨p, Ev.succ ?_, h1, h2⟩
  simp only [spec_DrawPlaces.l0, e1, Option.bind_some, show ((i : Int) < 12) by omega, ↓reduceIte, show acc.length < 17592186044416 by omega, up_ (show i < 4611686018427387904 by omega)]
  exact e
theorem draw_Places (l : List Int) (hl : l.length ≤ 2097152) : ∃ p : List Int, Ev (fun k => spec_DrawPlaces.f k l) p ∧ p.length = 12 ∧ ∀ z ∈ p, 0 ≤ z := by
 obtain ⟨h, e⟩ := new_ l hl
 obtain ⟨v, x1, y1, e1, _, _, c1⟩ := byte_ (b := l) (i := 0) h ⟨by omega, by omega, hl⟩
 obtain ⟨p, e2, h2⟩ := places_loop (b := l) 12 0 [] x1 y1 rfl (by omega) rfl (fun z hz => by cases hz) c1
 refine ⟨p, ?_, h2⟩
 unfold spec_DrawPlaces.f
 refine Ev.bind e ?_
 simp only [e1, Option.bind_some]
 exact e2
theorem draw_Fact (l : List Int) (hl : l.length ≤ 2097152) : ∃ (list : List Cr) (f : Fc) (ok : Bool), Ev (fun k => spec_DrawFactOf.f k l) (list, f.f0.f0, f.f0.f1, f.f1, ok) ∧ list.length ≤ 9 ∧ (ok = true → f ∈ factsF list) ∧ (ok = false → factsF list = []) := by
 obtain ⟨h, e⟩ := new_ l hl
 obtain ⟨v, x1, y1, e1, c1, v0, _, _⟩ := below_ (b := l) (i := 0) h ⟨by omega, by omega, hl⟩ 50 (by omega)
 obtain ⟨list, x2, y2, e2, hlen, _⟩ := creds_ (b := l) 9 0 [] x1 y1 rfl (by omega) rfl c1
 have e3 := spec_Facts list (by omega)
 by_cases hz : (factsF list).length = 0
 ·refine ⟨list, ⟨⟨0, 0⟩, 0⟩, false, ?_, hlen, fun h => (by cases h), fun _ => List.length_eq_zero_iff.1 hz⟩
  unfold spec_DrawFactOf.f
  refine Ev.bind e ?_
  simp only [e1, Option.bind_some]
  unfold spec_l06Creds.f
  refine Ev.bind e2 ?_
  refine Ev.bind e3 ?_
  simp only [show ((factsF list).length : Int) = 0 by omega, ↓reduceIte]
  exact Ev.now _
 ·have m0 := Int.tmod_nonneg ((factsF list).length : Int) v0
  have m1 := Int.tmod_lt_of_pos v (show (0 : Int) < ((factsF list).length : Int) by omega)
  obtain ⟨j, hj⟩ := Int.eq_ofNat_of_zero_le m0
  have hjl : j < (factsF list).length := by omega
  refine ⟨list, (factsF list)[j], true, ?_, hlen, fun _ => List.getElem_mem hjl, fun h => (by cases h)⟩
  unfold spec_DrawFactOf.f
  refine Ev.bind e ?_
  simp only [e1, Option.bind_some]
  unfold spec_l06Creds.f
  refine Ev.bind e2 ?_
  refine Ev.bind e3 ?_
  simp only [show ¬ ((factsF list).length : Int) = 0 by omega, ↓reduceIte, hj, nat_lt, nat_0, hjl, rd_T29, getD_ _ hjl, getDn_ _ hjl]
  exact Ev.now _
end Q
end Go.Proofs.Ytcbhmcpdnokbiaa
