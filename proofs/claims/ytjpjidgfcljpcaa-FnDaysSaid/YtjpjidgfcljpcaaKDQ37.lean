/-
Draws of a fact and of places, and a fact found in a list.
-/
import Derived.Test.YtjpjidgfcljpcaaKDQ21
namespace Go.Proofs.Ytjpjidgfcljpcaa
open Go.RowKit Go.Proofs.YtjpjidgfcljpcaaW.PrintWords Go.Proofs.YtjpjidgfcljpcaaW.PrintLast Go.Proofs.YtjpjidgfcljpcaaW.PrintMore Go.Proofs.Ytjpjidgfcljpcaa.PD
set_option linter.unusedVariables false
set_option linter.unusedSimpArgs false
namespace Q
theorem below4_ {b : List Int} {i : Int} (h : Int) (hc : Cu b i) (n : Int) (hn : 256 < n) : ∃ v i' h', spec_l01Below.f b i h n = some (v, i', h') ∧ Cu b i' ∧ 0 ≤ v := by
 unfold spec_l01Below.f
 rw [if_neg (by omega), if_neg (by omega)]
 obtain ⟨v1, i1, h1, e1, a1, b1, c1⟩ := byte_ h hc
 obtain ⟨v2, i2, h2, e2, a2, b2, c2⟩ := byte_ h1 c1
 obtain ⟨v3, i3, h3, e3, a3, b3, c3⟩ := byte_ h2 c2
 obtain ⟨v4, i4, h4, e4, a4, b4, c4⟩ := byte_ h3 c3
 simp only [e1, e2, e3, e4, Option.bind_some, show ¬ n = 0 by omega, ↓reduceIte]
 rw [w64 (n := v1 * 16777216) (by omega) (by omega), w64 (n := v2 * 65536) (by omega) (by omega), w64 (n := v3 * 256) (by omega) (by omega), w64 (n := v1 * 16777216 + v2 * 65536) (by omega) (by omega), w64 (n := v1 * 16777216 + v2 * 65536 + v3 * 256) (by omega) (by omega), w64 (n := v1 * 16777216 + v2 * 65536 + v3 * 256 + v4) (by omega) (by omega)]
 exact ⟨_, _, _, rfl, c4, Int.tmod_nonneg _ (by omega)⟩
theorem places_loop {b : List Int} : ∀ (d i : Nat) (acc : List Int) (x y : Int), 12 - i = d → i ≤ 12 → acc.length = i → (∀ z ∈ acc, 0 ≤ z) → Cu b x → ∃ p, Ev (fun k => spec_DrawPlaces.l0 k acc i b x y) p ∧ p.length = 12 ∧ ∀ z ∈ p, 0 ≤ z := by
 intro d
 induction d with
 | zero =>
  intro i acc x y hd hi ha hp hc
  refine ⟨acc, Ev.succ ?_, by omega, hp⟩
  simp only [spec_DrawPlaces.l0, show ¬ ((i : Int) < 12) by omega, ↓reduceIte]
  exact Ev.now _
 | succ d ih =>
  intro i acc x y hd hi ha hp hc
  obtain ⟨v, x1, y1, e1, c1, v0⟩ := below4_ y hc 10000 (by omega)
  obtain ⟨p, e, h1, h2⟩ := ih (i + 1) (acc ++ [v]) x1 y1 (by omega) (by omega) (by simp [ha]) (fun z hz => by
   rcases List.mem_append.1 hz with hz | hz
   ·exact hp z hz
   ·rw [List.mem_singleton.1 hz]; exact v0) c1
  refine ⟨p, Ev.succ ?_, h1, h2⟩
  simp only [spec_DrawPlaces.l0, e1, Option.bind_some, show ((i : Int) < 12) by omega, ↓reduceIte, show acc.length < 17592186044416 by omega, up_ (show i < 4611686018427387904 by omega)]
  exact e
theorem draw_Places (l : List Int) (hl : l.length ≤ 2097152) : ∃ p : List Int, Ev (fun k => spec_DrawPlaces.f k l) p ∧ p.length = 12 ∧ ∀ z ∈ p, 0 ≤ z := by
 obtain ⟨h, e⟩ := new_ l hl
 obtain ⟨v, x1, y1, e1, _, _, c1⟩ := byte_ (b := l) (i := 0) h ⟨by omega, by omega, hl⟩
 obtain ⟨p, e2, h2⟩ := places_loop (b := l) 12 0 [] x1 y1 rfl (by omega) rfl (fun z hz => by cases hz) c1
 refine ⟨p, ?_, h2⟩
 unfold spec_DrawPlaces.f
 refine Ev.bind e ?_
 simp only [e1, Option.bind_some]
 exact e2
theorem draw_Fact (l : List Int) (hl : l.length ≤ 2097152) : ∃ (list : List Cr) (f : Fc) (ok : Bool), Ev (fun k => spec_DrawFactOf.f k l) (list, f.f0.f0, f.f0.f1, f.f1, ok) ∧ list.length ≤ 9 ∧ (ok = true → f ∈ factsF list) ∧ (ok = false → factsF list = []) := by
 obtain ⟨h, e⟩ := new_ l hl
 obtain ⟨v, x1, y1, e1, c1, v0, _, _⟩ := below_ (b := l) (i := 0) h ⟨by omega, by omega, hl⟩ 50 (by omega)
 obtain ⟨list, x2, y2, e2, hlen, _⟩ := creds_ (b := l) 9 0 [] x1 y1 rfl (by omega) rfl c1
 have e3 := spec_Facts list (by omega)
 by_cases hz : (factsF list).length = 0
 ·refine ⟨list, ⟨⟨0, 0⟩, 0⟩, false, ?_, hlen, fun h => (by cases h), fun _ => List.length_eq_zero_iff.1 hz⟩
  unfold spec_DrawFactOf.f
  refine Ev.bind e ?_
  simp only [e1, Option.bind_some]
  unfold spec_l06Creds.f
  refine Ev.bind e2 ?_
  refine Ev.bind e3 ?_
  simp only [show ((factsF list).length : Int) = 0 by omega, ↓reduceIte]
  exact Ev.now _
 ·have m0 := Int.tmod_nonneg ((factsF list).length : Int) v0
  have m1 := Int.tmod_lt_of_pos v (show (0 : Int) < ((factsF list).length : Int) by omega)
  obtain ⟨j, hj⟩ := Int.eq_ofNat_of_zero_le m0
  have hjl : j < (factsF list).length := by omega
  refine ⟨list, (factsF list)[j], true, ?_, hlen, fun _ => List.getElem_mem hjl, fun h => (by cases h)⟩
  unfold spec_DrawFactOf.f
  refine Ev.bind e ?_
  simp only [e1, Option.bind_some]
  unfold spec_l06Creds.f
  refine Ev.bind e2 ?_
  refine Ev.bind e3 ?_
  simp only [show ¬ ((factsF list).length : Int) = 0 by omega, ↓reduceIte, hj, nat_lt, nat_0, hjl, rd_T51, getD_ _ hjl, getDn_ _ hjl]
  exact Ev.now _
theorem laws_hasF (l : List Fc) (a b c : Int) (h : l.length ≤ 1048576) : Ev (fun k => laws_hasFact.f k l a b c) (decide ((⟨⟨a, b⟩, c⟩ : Fc) ∈ l)) := by
 rw [← any_memF]
 unfold laws_hasFact.f
 have key := Ev.up0 l.length (fun i k => laws_hasFact.l0 k l i a b c) (fun i => (l.drop i).any (isFc a b c)) ?_ ?_ 0 (Nat.zero_le _)
 ·exact key
 ·intro i hi hn
  refine Ev.succ ?_
  simp only [laws_hasFact.l0, nat_lt, nat_0, hi, ↓reduceIte, rd_T51, getD_ _ hi, getDn_ _ hi, up_ (show i < 4611686018427387904 by omega)]
  rw [List.drop_eq_getElem_cons hi, List.any_cons]
  unfold isFc at hn ⊢
  cases hb : ((l[i].f0.f0 == a && l[i].f0.f1 == b) && l[i].f1 == c)
  ·simp only [Bool.false_eq_true, ↓reduceIte, Bool.false_or]
   exact hn
  ·simp only [↓reduceIte, Bool.true_or]
   exact Ev.now _
 ·refine Ev.succ ?_
  simp only [laws_hasFact.l0, nat_lt, Nat.lt_irrefl, ↓reduceIte, List.drop_length]
  exact Ev.now _
theorem holds_fact {l : List Cr} {r : Rl} {w d : Int} (h : holdsC l r w d = true) : (⟨r, w⟩ : Fc) ∈ factsF l := by
 unfold holdsC at h
 rw [memF_iff] at h
 exact mem_factsF.2 (h.more (fun c hc _ => (mem_alive.1 hc).1))
theorem holds_first {l : List Cr} {r : Rl} {w : Int} (h : (⟨r, w⟩ : Fc) ∈ factsF l) : holdsC l r w 1 = true := by
 unfold holdsC
 rw [memF_iff]
 refine (mem_factsF.1 h).more (fun c hc ok => mem_alive.2 ⟨hc, ok, ?_⟩)
 have := (cOk_of ok).2.2
 unfold inB at this
 rw [decide_eq_true_eq] at this
 exact this.1
theorem last_end {l : List Cr} {r : Rl} {w L : Int} (hL : IsLast l r w L) (h1 : holdsC l r w L = true) : L + 1 ∈ endsD l := by
 obtain ⟨c, hc, ok, h2, h3⟩ := holds_at h1
 refine mem_endsD.2 ⟨c, hc, ok, ?_⟩
 by_cases h4 : L < c.f5
 ·rw [hL.2.2 _ h4] at h3
  cases h3
 ·omega
theorem mem_lostD {l : List Cr} {f : Fc} {L : Int} (h0 : 0 ≤ L) (h9 : L ≤ 9999) (h1 : holdsC l f.f0 f.f1 L = true) (h2 : holdsC l f.f0 f.f1 (L + 1) = false) : f ∈ lostD l (L + 1) := by
 unfold lostD
 rw [if_pos (by omega), show L + 1 - 1 = L by omega]
 unfold gone
 rw [List.mem_filter]
 unfold holdsC memF at h1 h2
 exact ⟨of_decide_eq_true h1, by simpa using h2⟩
end Q
end Go.Proofs.Ytjpjidgfcljpcaa
