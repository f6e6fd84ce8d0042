/-
A stable sort of whole numbers by a key, second: sorting by putting in, and merging two sorted rows that stand side by side.
-/
import Derived.Test.YtljhfomkakhflaaKEPAx12
import Derived.Test.YtljhfomkakhflaaKEQ50
namespace Go.Proofs.Ytljhfomkakhflaa
open Go.RowKit Go.Proofs.YtljhfomkakhflaaW.PrintWords Go.Proofs.YtljhfomkakhflaaW.PrintLast Go.Proofs.YtljhfomkakhflaaW.PrintMore Go.Proofs.Ytljhfomkakhflaa.PA
set_option linter.unusedVariables false
set_option linter.unusedSimpArgs false
namespace Q
structure InvJ (key : Int → Int) (xs : List Int) (a i j : Nat) : Prop where
 rest : ∀ s t, a ≤ s → s < t → t ≤ i → s ≠ j → t ≠ j → key (gt xs s) ≤ key (gt xs t)
 over : ∀ t, j < t → t ≤ i → key (gt xs j) ≤ key (gt xs t)
theorem invJ_done {key : Int → Int} {xs : List Int} {a i j : Nat} (h : InvJ key xs a i j) (hj : j = a ∨ (a < j ∧ key (gt xs (j - 1)) ≤ key (gt xs j))) (hji : j ≤ i) : Srt key xs a (i + 1) := by
 intro s t h1 h2 h3
 by_cases es : s = j
 ·subst es; exact h.over t h2 (by omega)
 ·by_cases et : t = j
  ·subst et
   rcases hj with hj | ⟨hj, hk⟩
   ·omega
   ·by_cases e : s = t - 1
    ·subst e; exact hk
    ·exact Int.le_trans (h.rest s (t - 1) h1 (by omega) (by omega) es (by omega)) hk
  ·exact h.rest s t h1 h2 (by omega) es et
theorem invJ_sw {key : Int → Int} {xs : List Int} {a i j : Nat} (h : InvJ key xs a i (j + 1)) (ha : a ≤ j) (hji : j + 1 ≤ i) (hi : i < xs.length) (hk : key (gt xs (j + 1)) < key (gt xs j)) : InvJ key (sw xs (j + 1) j) a i j := by
 have hs := fun u => gt_sw (xs := xs) (i := j + 1) (j := j) (by omega) (by omega) u
 refine ⟨fun s t h1 h2 h3 e1 e2 => ?_, fun t h1 h2 => ?_⟩
 ·rw [hs s, hs t, if_neg e1, if_neg e2]
  by_cases es : s = j + 1
  ·rw [if_pos es, if_neg (by omega)]
   exact h.rest j t ha (by omega) h3 (by omega) (by omega)
  ·rw [if_neg es]
   by_cases et : t = j + 1
   ·rw [if_pos et]; exact h.rest s j h1 (by omega) (by omega) (by omega) (by omega)
   ·rw [if_neg et]; exact h.rest s t h1 h2 h3 es et
 ·rw [hs j, if_pos rfl, hs t, if_neg (by omega)]
  by_cases et : t = j + 1
  ·rw [if_pos et]; omega
  ·rw [if_neg et]; exact h.over t (by omega) h2
theorem ins_l1 (key : Int → Int) (p : Int → Int → Option Int) (a b i : Nat) (hi : i < b)
  (next : ∀ xs, Cm p key xs → b ≤ xs.length → Srt key xs a (i + 1) → ∃ ys, Ev (fun k => slices_insertionSortCmpFunc_int.l0 k xs (a : Int) (b : Int) p ((i + 1 : Nat) : Int)) ys ∧ (Sub a b xs ys ∧ Srt key ys a b)) :
  ∀ (j : Nat) (xs : List Int), a ≤ j → j ≤ i → Cm p key xs → b ≤ xs.length → InvJ key xs a i j → ∃ ys, Ev (fun k => slices_insertionSortCmpFunc_int.l1 k xs (a : Int) (b : Int) p (i : Int) (j : Int)) ys ∧ (Sub a b xs ys ∧ Srt key ys a b) := by
 intro j
 induction j with
 | zero =>
  intro xs ha hj hc hb hv
  refine Ev.exsucc ?_
  simp only [slices_insertionSortCmpFunc_int.l1]
  simp only [show ¬ ((0 : Nat) : Int) > (a : Int) from by omega, if_false]
  rw [upn (x := i) (by have := hc.lim; omega)]
  exact next xs hc hb (invJ_done hv (.inl (by omega)) hj)
 | succ j ih =>
  intro xs ha hj hc hb hv
  have hl := hc.lim
  refine Ev.exsucc ?_
  simp only [slices_insertionSortCmpFunc_int.l1]
  rw [dnn (x := j) (by omega), upn (x := i) (by omega), sw_eq xs (j + 1) j]
  by_cases e : a = j + 1
  ·simp only [show ¬ ((j + 1 : Nat) : Int) > (a : Int) from by omega, if_false]
   exact next xs hc hb (invJ_done hv (.inl (by omega)) hj)
  ·simp only [show ((j + 1 : Nat) : Int) > (a : Int) from by omega, show (0 : Int) ≤ ((j + 1 : Nat) : Int) from by omega, show ((j + 1 : Nat) : Int) < (xs.length : Int) from by omega, show (0 : Int) ≤ ((j : Nat) : Int) from by omega, show ((j : Nat) : Int) < (xs.length : Int) from by omega, if_true]
   rw [show p (rd xs ((j + 1 : Nat) : Int)) (rd xs (j : Int)) = some (key (gt xs (j + 1)) - key (gt xs j)) from hc.cmp (j + 1) j (by omega) (by omega)]
   simp only [Option.bind_some]
   by_cases g : key (gt xs (j + 1)) < key (gt xs j)
   ·simp only [show key (gt xs (j + 1)) - key (gt xs j) < 0 from by omega, if_true]
    have hsb := sub_sw (a := a) (b := b) (i := j + 1) (j := j) (xs := xs) (by omega) (by omega) (by omega) (by omega) hb
    obtain ⟨ys, h1, h2, h3⟩ := ih (sw xs (j + 1) j) (by omega) (by omega) (hc.sub hsb hb) (by rw [sw_len]; exact hb) (invJ_sw hv (by omega) hj (by omega) g)
    exact ⟨ys, h1, hsb.trans h2, h3⟩
   ·simp only [show ¬ key (gt xs (j + 1)) - key (gt xs j) < 0 from by omega, if_false]
    exact next xs hc hb (invJ_done hv (.inr ⟨by omega, by simp only [Nat.add_sub_cancel]; omega⟩) hj)
theorem ins_l0 (key : Int → Int) (p : Int → Int → Option Int) (a b : Nat) : ∀ (d i : Nat) (xs : List Int), b - i = d → a ≤ i → Cm p key xs → b ≤ xs.length → Srt key xs a i →
  ∃ ys, Ev (fun k => slices_insertionSortCmpFunc_int.l0 k xs (a : Int) (b : Int) p (i : Int)) ys ∧ (Sub a b xs ys ∧ Srt key ys a b) := by
 intro d
 induction d with
 | zero =>
  intro i xs hd ha hc hb hs
  refine Ev.exsucc ?_
  simp only [slices_insertionSortCmpFunc_int.l0]
  simp only [show ¬ (i : Int) < (b : Int) from by omega, if_false]
  exact ⟨xs, Ev.now xs, Sub.refl _ _ _, hs.nar (Nat.le_refl _) (by omega)⟩
 | succ d ih =>
  intro i xs hd ha hc hb hs
  refine Ev.exsucc ?_
  simp only [slices_insertionSortCmpFunc_int.l0]
  simp only [show (i : Int) < (b : Int) from by omega, if_true]
  exact ins_l1 key p a b i (by omega) (fun xs' h1 h2 h3 => ih (i + 1) xs' (by omega) (by omega) h1 h2 h3) i xs ha (Nat.le_refl _) hc hb ⟨fun s t h1 h2 h3 e1 e2 => hs s t h1 h2 (by omega), fun t h1 h2 => by omega⟩
theorem insertion (key : Int → Int) (p : Int → Int → Option Int) (a b : Nat) (xs : List Int) (hc : Cm p key xs) (hb : b ≤ xs.length) (ha : a ≤ xs.length) :
  ∃ ys, Ev (fun k => slices_insertionSortCmpFunc_int.f k xs (a : Int) (b : Int) p) ys ∧ (Sub a b xs ys ∧ Srt key ys a b) := by
 unfold slices_insertionSortCmpFunc_int.f
 rw [upn (x := a) (by have := hc.lim; omega)]
 exact ins_l0 key p a b (b - (a + 1)) (a + 1) xs rfl (by omega) hc hb (fun s t h1 h2 h3 => by omega)
theorem up_l1 (i : Nat) : ∀ (d k0 : Nat) (xs : List Int), i - 1 - k0 = d → k0 < i → i ≤ xs.length → xs.length ≤ 100000 →
  ∃ ys, Ev (fun k => slices_symMergeCmpFunc_int.l1 k xs (i : Int) (k0 : Int)) ys ∧ (Sub k0 i xs ys ∧ ∀ t, gt ys t = if k0 ≤ t ∧ t + 1 < i then gt xs (t + 1) else if t + 1 = i then gt xs k0 else gt xs t) := by
 intro d
 induction d with
 | zero =>
  intro k0 xs hd hk hi hl
  refine Ev.exsucc ?_
  simp only [slices_symMergeCmpFunc_int.l1]
  obtain ⟨i', rfl⟩ : ∃ i', i = i' + 1 := ⟨i - 1, by omega⟩
  rw [dnn (x := i') (by omega)]
  simp only [show ¬ (k0 : Int) < (i' : Int) from by omega, if_false]
  refine ⟨xs, Ev.now xs, Sub.refl _ _ _, fun t => ?_⟩
  repeat' split
  all_goals first | omega | (congr 1; omega)
 | succ d ih =>
  intro k0 xs hd hk hi hl
  refine Ev.exsucc ?_
  simp only [slices_symMergeCmpFunc_int.l1]
  obtain ⟨i', rfl⟩ : ∃ i', i = i' + 1 := ⟨i - 1, by omega⟩
  rw [dnn (x := i') (by omega), upn (x := k0) (by omega), sw_eq xs k0 (k0 + 1)]
  simp only [show (k0 : Int) < (i' : Int) from by omega, show (0 : Int) ≤ ((k0 + 1 : Nat) : Int) from by omega, show ((k0 + 1 : Nat) : Int) < (xs.length : Int) from by omega, show (0 : Int) ≤ (k0 : Int) from by omega, show (k0 : Int) < (xs.length : Int) from by omega, if_true]
  obtain ⟨ys, h1, h2, h3⟩ := ih (k0 + 1) (sw xs k0 (k0 + 1)) (by omega) (by omega) (by rw [sw_len]; exact hi) (by rw [sw_len]; exact hl)
  refine ⟨ys, h1, (sub_sw (by omega) (by omega) (by omega) (by omega) hi).trans (h2.wide (by omega) (by omega)), fun t => ?_⟩
  have hs := fun u => gt_sw (xs := xs) (i := k0) (j := k0 + 1) (by omega) (by omega) u
  rw [h3 t]
  simp only [hs]
  repeat' split
  all_goals first | omega | exact absurd trivial (by assumption) | (congr 1; omega)
theorem down_l3 (i : Nat) : ∀ (d k0 : Nat) (xs : List Int), k0 - i = d → i ≤ k0 → k0 < xs.length → xs.length ≤ 100000 →
  ∃ ys, Ev (fun k => slices_symMergeCmpFunc_int.l3 k xs (i : Int) (k0 : Int)) ys ∧ (Sub i (k0 + 1) xs ys ∧ ∀ t, gt ys t = if t = i then gt xs k0 else if i < t ∧ t ≤ k0 then gt xs (t - 1) else gt xs t) := by
 intro d
 induction d with
 | zero =>
  intro k0 xs hd hk hi hl
  refine Ev.exsucc ?_
  simp only [slices_symMergeCmpFunc_int.l3]
  simp only [show ¬ (k0 : Int) > (i : Int) from by omega, if_false]
  refine ⟨xs, Ev.now xs, Sub.refl _ _ _, fun t => ?_⟩
  repeat' split
  all_goals first | omega | (congr 1; omega)
 | succ d ih =>
  intro k0 xs hd hk hi hl
  refine Ev.exsucc ?_
  simp only [slices_symMergeCmpFunc_int.l3]
  obtain ⟨k1, rfl⟩ : ∃ k1, k0 = k1 + 1 := ⟨k0 - 1, by omega⟩
  rw [dnn (x := k1) (by omega), sw_eq xs (k1 + 1) k1]
  simp only [show ((k1 + 1 : Nat) : Int) > (i : Int) from by omega, show (0 : Int) ≤ ((k1 + 1 : Nat) : Int) from by omega, show ((k1 + 1 : Nat) : Int) < (xs.length : Int) from by omega, show (0 : Int) ≤ (k1 : Int) from by omega, show (k1 : Int) < (xs.length : Int) from by omega, if_true]
  obtain ⟨ys, h1, h2, h3⟩ := ih k1 (sw xs (k1 + 1) k1) (by omega) (by omega) (by rw [sw_len]; omega) (by rw [sw_len]; exact hl)
  refine ⟨ys, h1, (sub_sw (by omega) (by omega) (by omega) (by omega) (by omega)).trans (h2.wide (by omega) (by omega)), fun t => ?_⟩
  have hs := fun u => gt_sw (xs := xs) (i := k1 + 1) (j := k1) (by omega) (by omega) u
  rw [h3 t]
  simp only [hs]
  repeat' split
  all_goals first | omega | exact absurd trivial (by assumption) | (congr 1; omega)
theorem sym_l0 (key : Int → Int) (p : Int → Int → Option Int) (a b : Nat) (xs : List Int) (hc : Cm p key xs) (hab : a < b) (hb : b ≤ xs.length) (hs : Srt key xs (a + 1) b) :
  ∀ (d i j : Nat), j - i = d → a + 1 ≤ i → i ≤ j → j ≤ b → (∀ t, a + 1 ≤ t → t < i → key (gt xs t) < key (gt xs a)) → (∀ t, j ≤ t → t < b → key (gt xs a) ≤ key (gt xs t)) →
  ∃ ys, Ev (fun k => slices_symMergeCmpFunc_int.l0 k xs (a : Int) p (i : Int) (j : Int)) ys ∧ (Sub a b xs ys ∧ Srt key ys a b) := by
 intro d
 induction d using Nat.strongRecOn with
 | _ d ih =>
  intro i j hd hi hij hj hlo hhi
  have hl := hc.lim
  refine Ev.exsucc ?_
  simp only [slices_symMergeCmpFunc_int.l0]
  rw [half_ (x := i) (y := j) (by omega) (by omega), upn (x := (i + j) / 2) (by omega)]
  by_cases e : i < j
  ·simp only [show (i : Int) < (j : Int) from by omega, show (0 : Int) ≤ (((i + j) / 2 : Nat) : Int) from by omega, show (((i + j) / 2 : Nat) : Int) < (xs.length : Int) from by omega, show (0 : Int) ≤ (a : Int) from by omega, show (a : Int) < (xs.length : Int) from by omega, if_true]
   rw [show p (rd xs (((i + j) / 2 : Nat) : Int)) (rd xs (a : Int)) = some (key (gt xs ((i + j) / 2)) - key (gt xs a)) from hc.cmp ((i + j) / 2) a (by omega) (by omega)]
   simp only [Option.bind_some]
   by_cases g : key (gt xs ((i + j) / 2)) < key (gt xs a)
   ·simp only [show key (gt xs ((i + j) / 2)) - key (gt xs a) < 0 from by omega, if_true]
    exact ih (j - ((i + j) / 2 + 1)) (by omega) ((i + j) / 2 + 1) j rfl (by omega) (by omega) hj (fun t h1 h2 => Int.lt_of_le_of_lt (hs.le h1 (by omega) (by omega)) g) hhi
   ·simp only [show ¬ key (gt xs ((i + j) / 2)) - key (gt xs a) < 0 from by omega, if_false]
    exact ih ((i + j) / 2 - i) (by omega) i ((i + j) / 2) rfl hi (by omega) (by omega) hlo (fun t h1 h2 => Int.le_trans (by omega) (hs.le (s := (i + j) / 2) (by omega) h1 h2))
  ·simp only [show ¬ (i : Int) < (j : Int) from by omega, if_false]
   obtain ⟨ys, h1, h2, h3⟩ := up_l1 i (i - 1 - a) a xs rfl (by omega) (by omega) hl
   refine ⟨ys, h1, h2.wide (Nat.le_refl _) (by omega), fun s t t1 t2 t3 => ?_⟩
   rw [h3 s, h3 t]
   repeat' split
   all_goals first | omega | exact hs _ _ (by omega) (by omega) (by omega) | exact Int.le_of_lt (hlo _ (by omega) (by omega)) | exact hhi _ (by omega) (by omega)
theorem sym_l2 (key : Int → Int) (p : Int → Int → Option Int) (a m : Nat) (xs : List Int) (hc : Cm p key xs) (hab : a < m) (hb : m + 1 ≤ xs.length) (hs : Srt key xs a m) :
  ∀ (d i j : Nat), j - i = d → a ≤ i → i ≤ j → j ≤ m → (∀ t, a ≤ t → t < i → key (gt xs t) ≤ key (gt xs m)) → (∀ t, j ≤ t → t < m → key (gt xs m) < key (gt xs t)) →
  ∃ ys, Ev (fun k => slices_symMergeCmpFunc_int.l2 k xs (m : Int) p (i : Int) (j : Int)) ys ∧ (Sub a (m + 1) xs ys ∧ Srt key ys a (m + 1)) := by
 intro d
 induction d using Nat.strongRecOn with
 | _ d ih =>
  intro i j hd hi hij hj hlo hhi
  have hl := hc.lim
  refine Ev.exsucc ?_
  simp only [slices_symMergeCmpFunc_int.l2]
  rw [half_ (x := i) (y := j) (by omega) (by omega), upn (x := (i + j) / 2) (by omega)]
  by_cases e : i < j
  ·simp only [show (i : Int) < (j : Int) from by omega, show (0 : Int) ≤ (((i + j) / 2 : Nat) : Int) from by omega, show (((i + j) / 2 : Nat) : Int) < (xs.length : Int) from by omega, show (0 : Int) ≤ (m : Int) from by omega, show (m : Int) < (xs.length : Int) from by omega, if_true]
   rw [show p (rd xs (m : Int)) (rd xs (((i + j) / 2 : Nat) : Int)) = some (key (gt xs m) - key (gt xs ((i + j) / 2))) from hc.cmp m ((i + j) / 2) (by omega) (by omega)]
   simp only [Option.bind_some]
   by_cases g : key (gt xs m) < key (gt xs ((i + j) / 2))
   ·simp only [show key (gt xs m) - key (gt xs ((i + j) / 2)) < 0 from by omega, if_true]
    exact ih ((i + j) / 2 - i) (by omega) i ((i + j) / 2) rfl hi (by omega) (by omega) hlo (fun t h1 h2 => Int.lt_of_lt_of_le g (hs.le (by omega) h1 h2))
   ·simp only [show ¬ key (gt xs m) - key (gt xs ((i + j) / 2)) < 0 from by omega, if_false]
    exact ih (j - ((i + j) / 2 + 1)) (by omega) ((i + j) / 2 + 1) j rfl (by omega) (by omega) hj (fun t h1 h2 => Int.le_trans (hs.le (t := (i + j) / 2) h1 (by omega) (by omega)) (by omega)) hhi
  ·simp only [show ¬ (i : Int) < (j : Int) from by omega, if_false]
   obtain ⟨ys, h1, h2, h3⟩ := down_l3 i (m - i) m xs rfl (by omega) (by omega) hl
   refine ⟨ys, h1, h2.wide hi (Nat.le_refl _), fun s t t1 t2 t3 => ?_⟩
   rw [h3 s, h3 t]
   repeat' split
   all_goals first | omega | exact hs _ _ (by omega) (by omega) (by omega) | exact Int.le_of_lt (hhi _ (by omega) (by omega)) | exact hlo _ (by omega) (by omega)
end Q
end Go.Proofs.Ytljhfomkakhflaa
