/-
A stable sort of items by a key, second: sorting by putting in, and merging two sorted rows that stand side by side.
-/
import Derived.Test.YtkimdmdkldlhpaaKCQ71
namespace Go.Proofs.Ytkimdmdkldlhpaa
open Go.RowKit Go.Proofs.YtkimdmdkldlhpaaW.PrintWords Go.Proofs.YtkimdmdkldlhpaaW.PrintLast Go.Proofs.YtkimdmdkldlhpaaW.PrintMore Go.Proofs.Ytkimdmdkldlhpaa.PA
set_option linter.unusedVariables false
set_option linter.unusedSimpArgs false
namespace Q
structure InvJI (key : Itm → Int) (xs : List Itm) (a i j : Nat) : Prop where
 rest : ∀ s t, a ≤ s → s < t → t ≤ i → s ≠ j → t ≠ j → key (gtI xs s) ≤ key (gtI xs t)
 over : ∀ t, j < t → t ≤ i → key (gtI xs j) ≤ key (gtI xs t)
theorem invJ_doneI {key : Itm → Int} {xs : List Itm} {a i j : Nat} (h : InvJI key xs a i j) (hj : j = a ∨ (a < j ∧ key (gtI xs (j - 1)) ≤ key (gtI xs j))) (hji : j ≤ i) : SrtI key xs a (i + 1) := by
 intro s t h1 h2 h3
 by_cases es : s = j
 ·subst es; exact h.over t h2 (by omega)
 ·by_cases et : t = j
  ·subst et
   rcases hj with hj | ⟨hj, hk⟩
   ·omega
   ·by_cases e : s = t - 1
    ·subst e; exact hk
    ·exact Int.le_trans (h.rest s (t - 1) h1 (by omega) (by omega) es (by omega)) hk
  ·exact h.rest s t h1 h2 (by omega) es et
theorem invJ_swI {key : Itm → Int} {xs : List Itm} {a i j : Nat} (h : InvJI key xs a i (j + 1)) (ha : a ≤ j) (hji : j + 1 ≤ i) (hi : i < xs.length) (hk : key (gtI xs (j + 1)) < key (gtI xs j)) : InvJI key (swI xs (j + 1) j) a i j := by
 have hs := fun u => gt_swI (xs := xs) (i := j + 1) (j := j) (by omega) (by omega) u
 refine ⟨fun s t h1 h2 h3 e1 e2 => ?_, fun t h1 h2 => ?_⟩
 ·rw [hs s, hs t, if_neg e1, if_neg e2]
  by_cases es : s = j + 1
  ·rw [if_pos es, if_neg (by omega)]
   exact h.rest j t ha (by omega) h3 (by omega) (by omega)
  ·rw [if_neg es]
   by_cases et : t = j + 1
   ·rw [if_pos et]; exact h.rest s j h1 (by omega) (by omega) (by omega) (by omega)
   ·rw [if_neg et]; exact h.rest s t h1 h2 h3 es et
 ·rw [hs j, if_pos rfl, hs t, if_neg (by omega)]
  by_cases et : t = j + 1
  ·rw [if_pos et]; omega
  ·rw [if_neg et]; exact h.over t (by omega) h2
theorem ins_l1I (key : Itm → Int) (p : Itm → Itm → Option Int) (a b i : Nat) (hi : i < b)
  (next : ∀ xs, CmI p key xs → b ≤ xs.length → SrtI key xs a (i + 1) → ∃ ys, Ev (fun k => impl_Item_84.l0 k xs (a : Int) (b : Int) p ((i + 1 : Nat) : Int)) ys ∧ (SubI a b xs ys ∧ SrtI key ys a b)) :
  ∀ (j : Nat) (xs : List Itm), a ≤ j → j ≤ i → CmI p key xs → b ≤ xs.length → InvJI key xs a i j → ∃ ys, Ev (fun k => impl_Item_84.l1 k xs (a : Int) (b : Int) p (i : Int) (j : Int)) ys ∧ (SubI a b xs ys ∧ SrtI key ys a b) := by
 intro j
 induction j with
 | zero =>
  intro xs ha hj hc hb hv
  refine Ev.exsuccI ?_
  simp only [impl_Item_84.l1, eta_i]
  simp only [show ¬ ((0 : Nat) : Int) > (a : Int) from by omega, if_false]
  rw [upnI (x := i) (by have := hc.lim; omega)]
  exact next xs hc hb (invJ_doneI hv (.inl (by omega)) hj)
 | succ j ih =>
  intro xs ha hj hc hb hv
  have hl := hc.lim
  refine Ev.exsuccI ?_
  simp only [impl_Item_84.l1, eta_i]
  rw [dnnI (x := j) (by omega), upnI (x := i) (by omega), sw_eqI xs (j + 1) j]
  by_cases e : a = j + 1
  ·simp only [show ¬ ((j + 1 : Nat) : Int) > (a : Int) from by omega, if_false]
   exact next xs hc hb (invJ_doneI hv (.inl (by omega)) hj)
  ·simp only [show ((j + 1 : Nat) : Int) > (a : Int) from by omega, show (0 : Int) ≤ ((j + 1 : Nat) : Int) from by omega, show ((j + 1 : Nat) : Int) < (xs.length : Int) from by omega, show (0 : Int) ≤ ((j : Nat) : Int) from by omega, show ((j : Nat) : Int) < (xs.length : Int) from by omega, if_true]
   obtain ⟨c_, hc1_, hc2_⟩ := hc.cmp (j + 1) j (by omega) (by omega)
   rw [show p (rd_T52 xs ((j + 1 : Nat) : Int)) (rd_T52 xs (j : Int)) = some c_ from hc1_]
   simp only [Option.bind_some]
   by_cases g : key (gtI xs (j + 1)) < key (gtI xs j)
   ·simp only [show c_ < 0 from hc2_.2 g, if_true]
    have hsb := sub_swI (a := a) (b := b) (i := j + 1) (j := j) (xs := xs) (by omega) (by omega) (by omega) (by omega) hb
    obtain ⟨ys, h1, h2, h3⟩ := ih (swI xs (j + 1) j) (by omega) (by omega) (hc.sub hsb hb) (by rw [sw_lenI]; exact hb) (invJ_swI hv (by omega) hj (by omega) g)
    exact ⟨ys, h1, hsb.trans h2, h3⟩
   ·simp only [show ¬ c_ < 0 from fun z => g (hc2_.1 z), if_false]
    exact next xs hc hb (invJ_doneI hv (.inr ⟨by omega, by simp only [Nat.add_sub_cancel]; omega⟩) hj)
theorem ins_l0I (key : Itm → Int) (p : Itm → Itm → Option Int) (a b : Nat) : ∀ (d i : Nat) (xs : List Itm), b - i = d → a ≤ i → CmI p key xs → b ≤ xs.length → SrtI key xs a i →
  ∃ ys, Ev (fun k => impl_Item_84.l0 k xs (a : Int) (b : Int) p (i : Int)) ys ∧ (SubI a b xs ys ∧ SrtI key ys a b) := by
 intro d
 induction d with
 | zero =>
  intro i xs hd ha hc hb hs
  refine Ev.exsuccI ?_
  simp only [impl_Item_84.l0, eta_i]
  simp only [show ¬ (i : Int) < (b : Int) from by omega, if_false]
  exact ⟨xs, Ev.now xs, SubI.refl _ _ _, hs.nar (Nat.le_refl _) (by omega)⟩
 | succ d ih =>
  intro i xs hd ha hc hb hs
  refine Ev.exsuccI ?_
  simp only [impl_Item_84.l0, eta_i]
  simp only [show (i : Int) < (b : Int) from by omega, if_true]
  exact ins_l1I key p a b i (by omega) (fun xs' h1 h2 h3 => ih (i + 1) xs' (by omega) (by omega) h1 h2 h3) i xs ha (Nat.le_refl _) hc hb ⟨fun s t h1 h2 h3 e1 e2 => hs s t h1 h2 (by omega), fun t h1 h2 => by omega⟩
theorem insertionI (key : Itm → Int) (p : Itm → Itm → Option Int) (a b : Nat) (xs : List Itm) (hc : CmI p key xs) (hb : b ≤ xs.length) (ha : a ≤ xs.length) :
  ∃ ys, Ev (fun k => impl_Item_84.f k xs (a : Int) (b : Int) p) ys ∧ (SubI a b xs ys ∧ SrtI key ys a b) := by
 unfold impl_Item_84.f
 rw [upnI (x := a) (by have := hc.lim; omega)]
 exact ins_l0I key p a b (b - (a + 1)) (a + 1) xs rfl (by omega) hc hb (fun s t h1 h2 h3 => by omega)
theorem up_l1I (i : Nat) : ∀ (d k0 : Nat) (xs : List Itm), i - 1 - k0 = d → k0 < i → i ≤ xs.length → xs.length ≤ 1100000 →
  ∃ ys, Ev (fun k => impl_Item_85.l1 k xs (i : Int) (k0 : Int)) ys ∧ (SubI k0 i xs ys ∧ ∀ t, gtI ys t = if k0 ≤ t ∧ t + 1 < i then gtI xs (t + 1) else if t + 1 = i then gtI xs k0 else gtI xs t) := by
 intro d
 induction d with
 | zero =>
  intro k0 xs hd hk hi hl
  refine Ev.exsuccI ?_
  simp only [impl_Item_85.l1, eta_i]
  obtain ⟨i', rfl⟩ : ∃ i', i = i' + 1 := ⟨i - 1, by omega⟩
  rw [dnnI (x := i') (by omega)]
  simp only [show ¬ (k0 : Int) < (i' : Int) from by omega, if_false]
  refine ⟨xs, Ev.now xs, SubI.refl _ _ _, fun t => ?_⟩
  repeat' split
  all_goals first | omega | (congr 1 <;> omega)
 | succ d ih =>
  intro k0 xs hd hk hi hl
  refine Ev.exsuccI ?_
  simp only [impl_Item_85.l1, eta_i]
  obtain ⟨i', rfl⟩ : ∃ i', i = i' + 1 := ⟨i - 1, by omega⟩
  rw [dnnI (x := i') (by omega), upnI (x := k0) (by omega), sw_eqI xs k0 (k0 + 1)]
  simp only [show (k0 : Int) < (i' : Int) from by omega, show (0 : Int) ≤ ((k0 + 1 : Nat) : Int) from by omega, show ((k0 + 1 : Nat) : Int) < (xs.length : Int) from by omega, show (0 : Int) ≤ (k0 : Int) from by omega, show (k0 : Int) < (xs.length : Int) from by omega, if_true]
  obtain ⟨ys, h1, h2, h3⟩ := ih (k0 + 1) (swI xs k0 (k0 + 1)) (by omega) (by omega) (by rw [sw_lenI]; exact hi) (by rw [sw_lenI]; exact hl)
  refine ⟨ys, h1, (sub_swI (by omega) (by omega) (by omega) (by omega) hi).trans (h2.wide (by omega) (by omega)), fun t => ?_⟩
  have hs := fun u => gt_swI (xs := xs) (i := k0) (j := k0 + 1) (by omega) (by omega) u
  rw [h3 t]
  simp only [hs]
  repeat' split
  all_goals first | omega | exact absurd trivial (by assumption) | (congr 1 <;> omega)
theorem down_l3I (i : Nat) : ∀ (d k0 : Nat) (xs : List Itm), k0 - i = d → i ≤ k0 → k0 < xs.length → xs.length ≤ 1100000 →
  ∃ ys, Ev (fun k => impl_Item_85.l3 k xs (i : Int) (k0 : Int)) ys ∧ (SubI i (k0 + 1) xs ys ∧ ∀ t, gtI ys t = if t = i then gtI xs k0 else if i < t ∧ t ≤ k0 then gtI xs (t - 1) else gtI xs t) := by
 intro d
 induction d with
 | zero =>
  intro k0 xs hd hk hi hl
  refine Ev.exsuccI ?_
  simp only [impl_Item_85.l3, eta_i]
  simp only [show ¬ (k0 : Int) > (i : Int) from by omega, if_false]
  refine ⟨xs, Ev.now xs, SubI.refl _ _ _, fun t => ?_⟩
  repeat' split
  all_goals first | omega | (congr 1 <;> omega)
 | succ d ih =>
  intro k0 xs hd hk hi hl
  refine Ev.exsuccI ?_
  simp only [impl_Item_85.l3, eta_i]
  obtain ⟨k1, rfl⟩ : ∃ k1, k0 = k1 + 1 := ⟨k0 - 1, by omega⟩
  rw [dnnI (x := k1) (by omega), sw_eqI xs (k1 + 1) k1]
  simp only [show ((k1 + 1 : Nat) : Int) > (i : Int) from by omega, show (0 : Int) ≤ ((k1 + 1 : Nat) : Int) from by omega, show ((k1 + 1 : Nat) : Int) < (xs.length : Int) from by omega, show (0 : Int) ≤ (k1 : Int) from by omega, show (k1 : Int) < (xs.length : Int) from by omega, if_true]
  obtain ⟨ys, h1, h2, h3⟩ := ih k1 (swI xs (k1 + 1) k1) (by omega) (by omega) (by rw [sw_lenI]; omega) (by rw [sw_lenI]; exact hl)
  refine ⟨ys, h1, (sub_swI (by omega) (by omega) (by omega) (by omega) (by omega)).trans (h2.wide (by omega) (by omega)), fun t => ?_⟩
  have hs := fun u => gt_swI (xs := xs) (i := k1 + 1) (j := k1) (by omega) (by omega) u
  rw [h3 t]
  simp only [hs]
  repeat' split
  all_goals first | omega | exact absurd trivial (by assumption) | (congr 1 <;> omega)
theorem sym_l0I (key : Itm → Int) (p : Itm → Itm → Option Int) (a b : Nat) (xs : List Itm) (hc : CmI p key xs) (hab : a < b) (hb : b ≤ xs.length) (hs : SrtI key xs (a + 1) b) :
  ∀ (d i j : Nat), j - i = d → a + 1 ≤ i → i ≤ j → j ≤ b → (∀ t, a + 1 ≤ t → t < i → key (gtI xs t) < key (gtI xs a)) → (∀ t, j ≤ t → t < b → key (gtI xs a) ≤ key (gtI xs t)) →
  ∃ ys, Ev (fun k => impl_Item_85.l0 k xs (a : Int) p (i : Int) (j : Int)) ys ∧ (SubI a b xs ys ∧ SrtI key ys a b) := by
 intro d
 induction d using Nat.strongRecOn with
 | _ d ih =>
  intro i j hd hi hij hj hlo hhi
  have hl := hc.lim
  refine Ev.exsuccI ?_
  simp only [impl_Item_85.l0, eta_i]
  rw [half_I (x := i) (y := j) (by omega) (by omega), upnI (x := (i + j) / 2) (by omega)]
  by_cases e : i < j
  ·simp only [show (i : Int) < (j : Int) from by omega, show (0 : Int) ≤ (((i + j) / 2 : Nat) : Int) from by omega, show (((i + j) / 2 : Nat) : Int) < (xs.length : Int) from by omega, show (0 : Int) ≤ (a : Int) from by omega, show (a : Int) < (xs.length : Int) from by omega, if_true]
   obtain ⟨c_, hc1_, hc2_⟩ := hc.cmp ((i + j) / 2) a (by omega) (by omega)
   rw [show p (rd_T52 xs (((i + j) / 2 : Nat) : Int)) (rd_T52 xs (a : Int)) = some c_ from hc1_]
   simp only [Option.bind_some]
   by_cases g : key (gtI xs ((i + j) / 2)) < key (gtI xs a)
   ·simp only [show c_ < 0 from hc2_.2 g, if_true]
    exact ih (j - ((i + j) / 2 + 1)) (by omega) ((i + j) / 2 + 1) j rfl (by omega) (by omega) hj (fun t h1 h2 => Int.lt_of_le_of_lt (hs.le h1 (by omega) (by omega)) g) hhi
   ·simp only [show ¬ c_ < 0 from fun z => g (hc2_.1 z), if_false]
    exact ih ((i + j) / 2 - i) (by omega) i ((i + j) / 2) rfl hi (by omega) (by omega) hlo (fun t h1 h2 => Int.le_trans (by omega) (hs.le (s := (i + j) / 2) (by omega) h1 h2))
  ·simp only [show ¬ (i : Int) < (j : Int) from by omega, if_false]
   obtain ⟨ys, h1, h2, h3⟩ := up_l1I i (i - 1 - a) a xs rfl (by omega) (by omega) hl
   refine ⟨ys, h1, h2.wide (Nat.le_refl _) (by omega), fun s t t1 t2 t3 => ?_⟩
   rw [h3 s, h3 t]
   repeat' split
   all_goals first | omega | exact hs _ _ (by omega) (by omega) (by omega) | exact Int.le_of_lt (hlo _ (by omega) (by omega)) | exact hhi _ (by omega) (by omega)
theorem sym_l2I (key : Itm → Int) (p : Itm → Itm → Option Int) (a m : Nat) (xs : List Itm) (hc : CmI p key xs) (hab : a < m) (hb : m + 1 ≤ xs.length) (hs : SrtI key xs a m) :
  ∀ (d i j : Nat), j - i = d → a ≤ i → i ≤ j → j ≤ m → (∀ t, a ≤ t → t < i → key (gtI xs t) ≤ key (gtI xs m)) → (∀ t, j ≤ t → t < m → key (gtI xs m) < key (gtI xs t)) →
  ∃ ys, Ev (fun k => impl_Item_85.l2 k xs (m : Int) p (i : Int) (j : Int)) ys ∧ (SubI a (m + 1) xs ys ∧ SrtI key ys a (m + 1)) := by
 intro d
 induction d using Nat.strongRecOn with
 | _ d ih =>
  intro i j hd hi hij hj hlo hhi
  have hl := hc.lim
  refine Ev.exsuccI ?_
  simp only [impl_Item_85.l2, eta_i]
  rw [half_I (x := i) (y := j) (by omega) (by omega), upnI (x := (i + j) / 2) (by omega)]
  by_cases e : i < j
  ·simp only [show (i : Int) < (j : Int) from by omega, show (0 : Int) ≤ (((i + j) / 2 : Nat) : Int) from by omega, show (((i + j) / 2 : Nat) : Int) < (xs.length : Int) from by omega, show (0 : Int) ≤ (m : Int) from by omega, show (m : Int) < (xs.length : Int) from by omega, if_true]
   obtain ⟨c_, hc1_, hc2_⟩ := hc.cmp m ((i + j) / 2) (by omega) (by omega)
   rw [show p (rd_T52 xs (m : Int)) (rd_T52 xs (((i + j) / 2 : Nat) : Int)) = some c_ from hc1_]
   simp only [Option.bind_some]
   by_cases g : key (gtI xs m) < key (gtI xs ((i + j) / 2))
   ·simp only [show c_ < 0 from hc2_.2 g, if_true]
    exact ih ((i + j) / 2 - i) (by omega) i ((i + j) / 2) rfl hi (by omega) (by omega) hlo (fun t h1 h2 => Int.lt_of_lt_of_le g (hs.le (by omega) h1 h2))
   ·simp only [show ¬ c_ < 0 from fun z => g (hc2_.1 z), if_false]
    exact ih (j - ((i + j) / 2 + 1)) (by omega) ((i + j) / 2 + 1) j rfl (by omega) (by omega) hj (fun t h1 h2 => Int.le_trans (hs.le (t := (i + j) / 2) h1 (by omega) (by omega)) (by omega)) hhi
  ·simp only [show ¬ (i : Int) < (j : Int) from by omega, if_false]
   obtain ⟨ys, h1, h2, h3⟩ := down_l3I i (m - i) m xs rfl (by omega) (by omega) hl
   refine ⟨ys, h1, h2.wide hi (Nat.le_refl _), fun s t t1 t2 t3 => ?_⟩
   rw [h3 s, h3 t]
   repeat' split
   all_goals first | omega | exact hs _ _ (by omega) (by omega) (by omega) | exact Int.le_of_lt (hhi _ (by omega) (by omega)) | exact hlo _ (by omega) (by omega)
end Q
end Go.Proofs.Ytkimdmdkldlhpaa
