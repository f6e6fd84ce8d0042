/-
A stable sort of items by a key, last: rows of a length, twice as long at each turn; all of it.
-/
import Derived.Test.YtkimdmdkldlhpaaKCQ73
namespace Go.Proofs.Ytkimdmdkldlhpaa
open Go.RowKit Go.Proofs.YtkimdmdkldlhpaaW.PrintWords Go.Proofs.YtkimdmdkldlhpaaW.PrintLast Go.Proofs.YtkimdmdkldlhpaaW.PrintMore Go.Proofs.Ytkimdmdkldlhpaa.PA
set_option linter.unusedVariables false
set_option linter.unusedSimpArgs false
namespace Q
inductive RunsI (key : Itm → Int) (xs : List Itm) (bs n : Nat) : Nat → Prop
 | cons (a : Nat) (h : SrtI key xs a (min (a + bs) n)) (t : a + bs ≤ n → RunsI key xs bs n (a + bs)) : RunsI key xs bs n a
theorem RunsI.head {key : Itm → Int} {xs : List Itm} {bs n a : Nat} (h : RunsI key xs bs n a) : SrtI key xs a (min (a + bs) n) := by cases h; assumption
theorem RunsI.tail {key : Itm → Int} {xs : List Itm} {bs n a : Nat} (h : RunsI key xs bs n a) (hb : a + bs ≤ n) : RunsI key xs bs n (a + bs) := by
 cases h with
 | cons _ h t => exact t hb
theorem RunsI.of {key : Itm → Int} {xs ys : List Itm} {bs n : Nat} : ∀ {a : Nat}, RunsI key xs bs n a → (∀ t, a ≤ t → t < n → gtI ys t = gtI xs t) → RunsI key ys bs n a := by
 intro a h
 induction h with
 | cons a h t ih => exact fun he => .cons a (h.of fun u u1 u2 => he u u1 (by omega)) fun hb => ih hb fun u u1 u2 => he u (by omega) u2
theorem st_l2I (key : Itm → Int) (p : Itm → Itm → Option Int) (n bs : Nat) (hbs : 0 < bs) (hbn : bs < n)
  (next : ∀ xs, xs.length = n → CmI p key xs → RunsI key xs (bs * 2) n 0 → ∃ ys, Ev (fun k => impl_Item_73.l1 k xs (n : Int) p ((bs * 2 : Nat) : Int)) ys ∧ (SubI 0 n xs ys ∧ SrtI key ys 0 n)) :
  ∀ (d a : Nat) (xs : List Itm), n + bs * 2 - a ≤ d → a ≤ n → xs.length = n → CmI p key xs → RunsI key xs bs n a → (∀ zs : List Itm, (∀ t, t < a → gtI zs t = gtI xs t) → RunsI key zs (bs * 2) n a → RunsI key zs (bs * 2) n 0) →
  ∃ ys, Ev (fun k => impl_Item_73.l2 k xs (n : Int) p (bs : Int) (a : Int) ((a + bs * 2 : Nat) : Int)) ys ∧ (SubI 0 n xs ys ∧ SrtI key ys 0 n) := by
 intro d
 induction d with
 | zero => intro a xs hd ha hx hc hr hp; omega
 | succ d ih =>
  intro a xs hd ha hx hc hr hp
  have hl := hc.lim
  refine Ev.exsuccI ?_
  simp only [impl_Item_73.l2, eta_i]
  rw [add_I (x := a) (y := bs) (by omega) (by omega), show wrap64 (2 * (bs : Int)) = ((bs * 2 : Nat) : Int) from by rw [w64 (by omega) (by omega)]; omega, show wrap64 ((bs : Int) * 2) = ((bs * 2 : Nat) : Int) from by rw [w64 (by omega) (by omega)]; omega]
  have g1 := hr.head
  by_cases c1 : a + bs * 2 ≤ n
  ·simp only [show ((a + bs * 2 : Nat) : Int) ≤ (n : Int) from by omega, if_true]
   have r2 := hr.tail (by omega)
   have g2 := r2.head
   have r3 := r2.tail (by omega)
   rw [show a + bs + bs = a + bs * 2 from by omega] at g2 r3
   rw [Nat.min_eq_left (by omega)] at g1 g2
   obtain ⟨ys, h1, h2, h3⟩ := sym_allI key p (bs * 2) a (a + bs) (a + bs * 2) xs (by omega) (by omega) (by omega) (by omega) hc g1 g2
   have hw := h2.wide (a := 0) (b := n) (by omega) (by omega)
   have hyl := h2.len
   rw [add_I (x := a + bs * 2) (y := bs * 2) (by omega) (by omega)]
   obtain ⟨zs, k1, k2, k3⟩ := ih (a + bs * 2) ys (by omega) (by omega) (by omega) (hc.sub hw (by omega)) (r3.of fun t t1 t2 => h2.out t (.inr t1)) (fun zs hz hr2 => hp zs (fun t ht => (hz t (by omega)).trans (h2.out t (.inl ht))) (.cons a (by rw [Nat.min_eq_left (by omega)]; exact h3.of fun t t1 t2 => hz t (by omega)) fun _ => hr2))
   exact Ev.exbindI h1 ⟨zs, k1, hw.trans k2, k3⟩
  ·simp only [show ¬ ((a + bs * 2 : Nat) : Int) ≤ (n : Int) from by omega, if_false]
   by_cases c2 : a + bs < n
   ·simp only [show ((a + bs : Nat) : Int) < (n : Int) from by omega, if_true]
    have r2 := hr.tail (by omega)
    have g2 := r2.head
    rw [Nat.min_eq_left (by omega)] at g1
    rw [Nat.min_eq_right (by omega)] at g2
    obtain ⟨ys, h1, h2, h3⟩ := sym_allI key p n a (a + bs) n xs (by omega) (by omega) c2 (by omega) hc g1 g2
    have hw := h2.wide (a := 0) (b := n) (by omega) (by omega)
    have hyl := h2.len
    obtain ⟨zs, k1, k2, k3⟩ := next ys (by omega) (hc.sub hw (by omega)) (hp ys (fun t ht => h2.out t (.inl ht)) (.cons a (h3.nar (Nat.le_refl _) (by omega)) fun hb => by omega))
    exact Ev.exbindI h1 ⟨zs, k1, hw.trans k2, k3⟩
   ·simp only [show ¬ ((a + bs : Nat) : Int) < (n : Int) from by omega, if_false]
    rw [Nat.min_eq_right (by omega)] at g1
    exact next xs hx hc (hp xs (fun _ _ => rfl) (.cons a (g1.nar (Nat.le_refl _) (by omega)) fun hb => by omega))
theorem st_l1I (key : Itm → Int) (p : Itm → Itm → Option Int) (n : Nat) : ∀ (d bs : Nat) (xs : List Itm), n - bs ≤ d → 0 < bs → bs ≤ 2200000 → xs.length = n → CmI p key xs → RunsI key xs bs n 0 →
  ∃ ys, Ev (fun k => impl_Item_73.l1 k xs (n : Int) p (bs : Int)) ys ∧ (SubI 0 n xs ys ∧ SrtI key ys 0 n) := by
 intro d
 induction d with
 | zero =>
  intro bs xs hd hb hb2 hx hc hr
  refine Ev.exsuccI ?_
  simp only [impl_Item_73.l1, eta_i]
  simp only [show ¬ (bs : Int) < (n : Int) from by omega, if_false]
  have g := hr.head
  rw [Nat.zero_add, Nat.min_eq_right (by omega)] at g
  exact ⟨xs, Ev.now xs, SubI.refl _ _ _, g⟩
 | succ d ih =>
  intro bs xs hd hb hb2 hx hc hr
  have hl := hc.lim
  refine Ev.exsuccI ?_
  simp only [impl_Item_73.l1, eta_i]
  by_cases c : bs < n
  ·simp only [show (bs : Int) < (n : Int) from by omega, if_true]
   rw [show wrap64 (2 * (bs : Int)) = ((0 + bs * 2 : Nat) : Int) from by rw [w64 (by omega) (by omega)]; omega]
   exact st_l2I key p n bs hb c (fun zs z1 z2 z3 => ih (bs * 2) zs (by omega) (by omega) (by omega) z1 z2 z3) (n + bs * 2) 0 xs (by omega) (by omega) hx hc hr (fun zs _ h => h)
  ·simp only [show ¬ (bs : Int) < (n : Int) from by omega, if_false]
   have g := hr.head
   rw [Nat.zero_add, Nat.min_eq_right (by omega)] at g
   exact ⟨xs, Ev.now xs, SubI.refl _ _ _, g⟩
theorem st_l0I (key : Itm → Int) (p : Itm → Itm → Option Int) (n : Nat) : ∀ (d a : Nat) (xs : List Itm), n + 20 - a ≤ d → a ≤ n → xs.length = n → CmI p key xs → (∀ zs : List Itm, (∀ t, t < a → gtI zs t = gtI xs t) → RunsI key zs 20 n a → RunsI key zs 20 n 0) →
  ∃ ys, Ev (fun k => impl_Item_73.l0 k xs (n : Int) p 20 (a : Int) ((a + 20 : Nat) : Int)) ys ∧ (SubI 0 n xs ys ∧ SrtI key ys 0 n) := by
 intro d
 induction d with
 | zero => intro a xs hd ha hx hc hp; omega
 | succ d ih =>
  intro a xs hd ha hx hc hp
  have hl := hc.lim
  refine Ev.exsuccI ?_
  simp only [impl_Item_73.l0, eta_i]
  by_cases c1 : a + 20 ≤ n
  ·simp only [show ((a + 20 : Nat) : Int) ≤ (n : Int) from by omega, if_true]
   obtain ⟨ys, h1, h2, h3⟩ := insertionI key p a (a + 20) xs hc (by omega) (by omega)
   have hw := h2.wide (a := 0) (b := n) (by omega) (by omega)
   have hyl := h2.len
   rw [show wrap64 (((a + 20 : Nat) : Int) + 20) = ((a + 20 + 20 : Nat) : Int) from by rw [w64 (by omega) (by omega)]; omega]
   obtain ⟨zs, k1, k2, k3⟩ := ih (a + 20) ys (by omega) (by omega) (by omega) (hc.sub hw (by omega)) (fun zs hz hr => hp zs (fun t ht => (hz t (by omega)).trans (h2.out t (.inl ht))) (.cons a (by rw [Nat.min_eq_left (by omega)]; exact h3.of fun t t1 t2 => hz t (by omega)) fun _ => hr))
   exact Ev.exbindI h1 ⟨zs, k1, hw.trans k2, k3⟩
  ·simp only [show ¬ ((a + 20 : Nat) : Int) ≤ (n : Int) from by omega, if_false]
   obtain ⟨ys, h1, h2, h3⟩ := insertionI key p a n xs hc (by omega) (by omega)
   have hw := h2.wide (a := 0) (b := n) (by omega) (by omega)
   have hyl := h2.len
   obtain ⟨zs, k1, k2, k3⟩ := st_l1I key p n n 20 ys (by omega) (by omega) (by omega) (by omega) (hc.sub hw (by omega)) (hp ys (fun t ht => h2.out t (.inl ht)) (.cons a (h3.nar (Nat.le_refl _) (by omega)) fun hb => by omega))
   exact Ev.exbindI h1 ⟨zs, k1, hw.trans k2, k3⟩
theorem sorted_byI (key : Itm → Int) (p : Itm → Itm → Option Int) (xs : List Itm) (hc : CmI p key xs) :
  ∃ ys, Ev (fun k => impl_Item_52.f k xs p) ys ∧ (SubI 0 xs.length xs ys ∧ SrtI key ys 0 xs.length) := by
 obtain ⟨ys, h1, h2⟩ := st_l0I key p xs.length (xs.length + 20) 0 xs (by omega) (by omega) rfl hc (fun zs _ h => h)
 unfold impl_Item_52.f impl_Item_73.f
 exact Ev.exbindI h1 ⟨ys, Ev.now ys, h2⟩
end Q
end Go.Proofs.Ytkimdmdkldlhpaa
