/-
A stable sort of items by a key, third: two sorted rows side by side become one; all of it.
-/
import Derived.Test.YtkimdmdkldlhpaaKCQ72
namespace Go.Proofs.Ytkimdmdkldlhpaa
open Go.RowKit Go.Proofs.YtkimdmdkldlhpaaW.PrintWords Go.Proofs.YtkimdmdkldlhpaaW.PrintLast Go.Proofs.YtkimdmdkldlhpaaW.PrintMore Go.Proofs.Ytkimdmdkldlhpaa.PA
set_option linter.unusedVariables false
set_option linter.unusedSimpArgs false
namespace Q
def MergesI (key : Itm → Int) (p : Itm → Itm → Option Int) (n : Nat) : Prop := ∀ (a m b : Nat) (xs : List Itm), b - a ≤ n → a < m → m < b → b ≤ xs.length → CmI p key xs → SrtI key xs a m → SrtI key xs m b →
  ∃ ys, Ev (fun k => impl_Item_85.f k xs (a : Int) (m : Int) (b : Int) p) ys ∧ (SubI a b xs ys ∧ SrtI key ys a b)
structure HalvesI (key : Itm → Int) (xs : List Itm) (a s mid e b : Nat) : Prop where
 l1 : SrtI key xs a s
 l2 : SrtI key xs s mid
 r1 : SrtI key xs mid e
 r2 : SrtI key xs e b
 lr : ∀ x y, a ≤ x → x < mid → mid ≤ y → y < b → key (gtI xs x) ≤ key (gtI xs y)
theorem join_I {key : Itm → Int} {xs ys zs : List Itm} {a mid b : Nat} (h1 : SubI a mid xs ys) (s1 : SrtI key ys a mid) (h2 : SubI mid b ys zs) (s2 : SrtI key zs mid b) (hm : a ≤ mid ∧ mid ≤ b)
  (lr : ∀ x y, a ≤ x → x < mid → mid ≤ y → y < b → key (gtI xs x) ≤ key (gtI xs y)) : SubI a b xs zs ∧ SrtI key zs a b := by
 refine ⟨(h1.wide (Nat.le_refl _) hm.2).trans (h2.wide hm.1 (Nat.le_refl _)), fun s t t1 t2 t3 => ?_⟩
 by_cases c1 : t < mid
 ·rw [h2.out s (.inl (by omega)), h2.out t (.inl c1)]; exact s1 s t t1 t2 c1
 ·by_cases c2 : mid ≤ s
  ·exact s2 s t c2 t2 t3
  ·obtain ⟨u, u1, u2, e1⟩ := h1.inn s t1 (by omega)
   obtain ⟨v, v1, v2, e2⟩ := h2.inn t (by omega) t3
   rw [h2.out s (.inl (by omega)), e1, e2, h1.out v (.inr v1)]
   exact lr u v u1 u2 v1 v2
theorem sym_j8bI (key : Itm → Int) (p : Itm → Itm → Option Int) (n : Nat) (ih : MergesI key p n) (mid e b : Nat) (xs : List Itm) (hn : b - mid ≤ n) (hmb : mid ≤ b) (hb : b ≤ xs.length) (hc : CmI p key xs) (he : mid ≤ e ∧ e ≤ b) (r1 : SrtI key xs mid e) (r2 : SrtI key xs e b) :
  ∃ ys, Ev (fun k => if (mid : Int) < (e : Int) then (if (e : Int) < (b : Int) then ((impl_Item_85.f k xs (mid : Int) (e : Int) (b : Int) p).bind fun t440 => (some t440)) else (some xs)) else (some xs)) ys ∧ (SubI mid b xs ys ∧ SrtI key ys mid b) := by
 by_cases c1 : mid < e
 ·simp only [show (mid : Int) < (e : Int) from by omega, if_true]
  by_cases c2 : e < b
  ·simp only [show (e : Int) < (b : Int) from by omega, if_true]
   obtain ⟨ys, h1, h2⟩ := ih mid e b xs hn c1 c2 hb hc r1 r2
   exact Ev.exbindI h1 ⟨ys, Ev.now ys, h2⟩
  ·simp only [show ¬ (e : Int) < (b : Int) from by omega, if_false]
   exact ⟨xs, Ev.now xs, SubI.refl _ _ _, r1.nar (Nat.le_refl _) (by omega)⟩
 ·simp only [show ¬ (mid : Int) < (e : Int) from by omega, if_false]
  exact ⟨xs, Ev.now xs, SubI.refl _ _ _, r2.nar (by omega) (Nat.le_refl _)⟩
theorem sym_j7I (key : Itm → Int) (p : Itm → Itm → Option Int) (n : Nat) (ih : MergesI key p n) (a s mid e b : Nat) (xs : List Itm) (hn1 : mid - a ≤ n) (hn2 : b - mid ≤ n) (hb : b ≤ xs.length) (hc : CmI p key xs) (ho : a ≤ s ∧ s ≤ mid ∧ mid ≤ e ∧ e ≤ b) (hh : HalvesI key xs a s mid e b) :
  ∃ ys, Ev (fun k => impl_Item_85.j7 k xs (a : Int) (b : Int) p (mid : Int) (s : Int) (e : Int)) ys ∧ (SubI a b xs ys ∧ SrtI key ys a b) := by
 have fin : ∀ b0 : Bool, (b0 = decide (a < s ∧ s < mid)) → ∃ ys, Ev (fun k => impl_Item_85.j8 k xs (a : Int) (b : Int) p (mid : Int) (s : Int) (e : Int) b0) ys ∧ (SubI a b xs ys ∧ SrtI key ys a b) := by
  intro b0 hb0
  refine Ev.exsuccI ?_
  simp only [impl_Item_85.j8, eta_i]
  by_cases c : a < s ∧ s < mid
  ·rw [decide_eq_true c] at hb0
   subst hb0
   simp only [if_true]
   obtain ⟨ys, h1, h2, h3⟩ := ih a s mid xs hn1 c.1 c.2 (by omega) hc hh.l1 hh.l2
   have hl := h2.len
   have hy := h2.wide (b := b) (Nat.le_refl a) (by omega)
   obtain ⟨zs, k1, k2, k3⟩ := sym_j8bI key p n ih mid e b ys hn2 (by omega) (by omega) (hc.sub hy hb) ⟨ho.2.2.1, ho.2.2.2⟩ (hh.r1.of fun t t1 t2 => h2.out t (.inr t1)) (hh.r2.of fun t t1 t2 => h2.out t (.inr (by omega)))
   exact Ev.exbindI h1 ⟨zs, k1, join_I h2 h3 k2 k3 (by omega) hh.lr⟩
  ·rw [decide_eq_false c] at hb0
   subst hb0
   simp only [Bool.false_eq_true, if_false]
   obtain ⟨zs, k1, k2, k3⟩ := sym_j8bI key p n ih mid e b xs hn2 (by omega) hb hc ⟨ho.2.2.1, ho.2.2.2⟩ hh.r1 hh.r2
   have hs : SrtI key xs a mid := by
    by_cases c1 : a < s
    ·exact hh.l1.nar (Nat.le_refl _) (by omega)
    ·exact hh.l2.nar (by omega) (Nat.le_refl _)
   exact ⟨zs, k1, join_I (SubI.refl _ _ _) hs k2 k3 (by omega) hh.lr⟩
 refine Ev.exsuccI ?_
 simp only [impl_Item_85.j7, eta_i]
 by_cases c : a < s
 ·simp only [show (a : Int) < (s : Int) from by omega, if_true]
  exact fin _ (by by_cases g : s < mid <;> simp [c, g])
 ·simp only [show ¬ (a : Int) < (s : Int) from by omega, if_false]
  exact fin _ (by simp [c])
theorem rot_halvesI {key : Itm → Int} {xs zs : List Itm} {a s m mid b e : Nat} (h1 : SrtI key xs a m) (h2 : SrtI key xs m b) (hr : RotI s m e xs zs) (hs : a ≤ s ∧ s ≤ m ∧ m ≤ e ∧ e ≤ b) (hm : mid + m = s + e)
  (lo : ∀ x y, a ≤ x → x < s → e ≤ y → y < b → key (gtI xs x) ≤ key (gtI xs y)) (hi : ∀ x y, m ≤ x → x < e → s ≤ y → y < m → key (gtI xs x) ≤ key (gtI xs y)) : HalvesI key zs a s mid e b := by
 have r1 : ∀ t, t < s → gtI zs t = gtI xs t := fun t ht => by rw [hr t, if_neg (by omega), if_neg (by omega)]
 have r2 : ∀ t, s ≤ t → t < mid → gtI zs t = gtI xs (t + (m - s)) := fun t ht ht2 => by rw [hr t, if_pos (by omega)]
 have r3 : ∀ t, mid ≤ t → t < e → gtI zs t = gtI xs (t - (e - m)) := fun t ht ht2 => by rw [hr t, if_neg (by omega), if_pos (by omega)]
 have r4 : ∀ t, e ≤ t → gtI zs t = gtI xs t := fun t ht => by rw [hr t, if_neg (by omega), if_neg (by omega)]
 refine ⟨fun x y t1 t2 t3 => ?_, fun x y t1 t2 t3 => ?_, fun x y t1 t2 t3 => ?_, fun x y t1 t2 t3 => ?_, fun x y t1 t2 t3 t4 => ?_⟩
 ·rw [r1 x (by omega), r1 y t3]; exact h1 x y t1 t2 (by omega)
 ·rw [r2 x t1 (by omega), r2 y (by omega) t3]; exact h2 _ _ (by omega) (by omega) (by omega)
 ·rw [r3 x t1 (by omega), r3 y (by omega) t3]; exact h1 _ _ (by omega) (by omega) (by omega)
 ·rw [r4 x t1, r4 y (by omega)]; exact h2 x y (by omega) t2 t3
 ·by_cases c1 : x < s
  ·rw [r1 x c1]
   by_cases c2 : y < e
   ·rw [r3 y t3 c2]; exact h1 _ _ t1 (by omega) (by omega)
   ·rw [r4 y (by omega)]; exact lo x y t1 c1 (by omega) t4
  ·rw [r2 x (by omega) t2]
   by_cases c2 : y < e
   ·rw [r3 y t3 c2]; exact hi _ _ (by omega) (by omega) (by omega) (by omega)
   ·rw [r4 y (by omega)]; exact h2 _ _ (by omega) (by omega) t4
theorem sym_j6I (key : Itm → Int) (p : Itm → Itm → Option Int) (n : Nat) (ih : MergesI key p n) (a s m mid e b : Nat) (xs : List Itm) (hn1 : mid - a ≤ n) (hn2 : b - mid ≤ n) (hb : b ≤ xs.length) (hc : CmI p key xs) (hs : a ≤ s ∧ s ≤ m ∧ m ≤ e ∧ e ≤ b) (hm : mid + m = s + e) (h1 : SrtI key xs a m) (h2 : SrtI key xs m b)
  (lo : ∀ x y, a ≤ x → x < s → e ≤ y → y < b → key (gtI xs x) ≤ key (gtI xs y)) (hi : ∀ x y, m ≤ x → x < e → s ≤ y → y < m → key (gtI xs x) ≤ key (gtI xs y)) :
  ∃ ys, Ev (fun k => impl_Item_85.j6 k xs (a : Int) (m : Int) (b : Int) p (mid : Int) (s : Int) (e : Int) (decide (s < m ∧ m < e))) ys ∧ (SubI a b xs ys ∧ SrtI key ys a b) := by
 refine Ev.exsuccI ?_
 simp only [impl_Item_85.j6, eta_i]
 by_cases c : s < m ∧ m < e
 ·simp only [decide_eq_true c, if_true]
  obtain ⟨zs, k1, k2, k3⟩ := rotateI p s m e c.1 c.2 xs (by omega) hc.lim
  have hl := k2.len
  have hw := k2.wide (a := a) (b := b) (by omega) (by omega)
  obtain ⟨ys, q1, q2, q3⟩ := sym_j7I key p n ih a s mid e b zs hn1 hn2 (by omega) (hc.sub hw hb) (by omega) (rot_halvesI h1 h2 k3 hs hm lo hi)
  exact Ev.exbindI k1 ⟨ys, q1, hw.trans q2, q3⟩
 ·simp only [decide_eq_false c, Bool.false_eq_true, if_false]
  have hr : RotI s m e xs xs := fun t => by
   repeat' split
   all_goals first | rfl | (congr 1 <;> omega)
  exact sym_j7I key p n ih a s mid e b xs hn1 hn2 hb hc (by omega) (rot_halvesI h1 h2 hr hs hm lo hi)
theorem sym_l4I (key : Itm → Int) (p : Itm → Itm → Option Int) (n : Nat) (ih : MergesI key p n) (a m b mid lo hi : Nat) (xs : List Itm) (hmid : mid = (a + b) / 2) (hab : a < m ∧ m < b) (hn1 : mid - a ≤ n) (hn2 : b - mid ≤ n) (hb : b ≤ xs.length) (hc : CmI p key xs) (h1 : SrtI key xs a m) (h2 : SrtI key xs m b)
  (hlh : (m > mid ∧ lo = mid + m - b ∧ hi = mid) ∨ (m ≤ mid ∧ lo = a ∧ hi = m)) :
  ∀ (d s r : Nat), r - s = d → lo ≤ s → s ≤ r → r ≤ hi → (∀ c, lo ≤ c → c < s → key (gtI xs c) ≤ key (gtI xs (mid + m - 1 - c))) → (∀ c, r ≤ c → c < hi → key (gtI xs (mid + m - 1 - c)) < key (gtI xs c)) →
  ∃ ys, Ev (fun k => impl_Item_85.l4 k xs (a : Int) (m : Int) (b : Int) p (mid : Int) ((mid + m : Nat) : Int) (s : Int) (r : Int) ((mid + m - 1 : Nat) : Int)) ys ∧ (SubI a b xs ys ∧ SrtI key ys a b) := by
 intro d
 induction d using Nat.strongRecOn with
 | _ d ih2 =>
  intro s r hd hls hsr hrh hlo hhi
  have hl := hc.lim
  refine Ev.exsuccI ?_
  simp only [impl_Item_85.l4, eta_i]
  rw [half_I (x := s) (y := r) (by omega) (by omega), upnI (x := (s + r) / 2) (by omega)]
  by_cases e : s < r
  ·have hq : (s + r) / 2 < hi := by omega
   have hq1 : lo ≤ (s + r) / 2 := by omega
   rw [sub_I (x := mid + m - 1) (y := (s + r) / 2) (by omega) (by omega)]
   simp only [show (s : Int) < (r : Int) from by omega, show (0 : Int) ≤ (((s + r) / 2 : Nat) : Int) from by omega, show (((s + r) / 2 : Nat) : Int) < (xs.length : Int) from by omega, show (0 : Int) ≤ ((mid + m - 1 - (s + r) / 2 : Nat) : Int) from by omega, show ((mid + m - 1 - (s + r) / 2 : Nat) : Int) < (xs.length : Int) from by omega, if_true]
   obtain ⟨c_, hc1_, hc2_⟩ := hc.cmp (mid + m - 1 - (s + r) / 2) ((s + r) / 2) (by omega) (by omega)
   rw [show p (rd_T52 xs ((mid + m - 1 - (s + r) / 2 : Nat) : Int)) (rd_T52 xs (((s + r) / 2 : Nat) : Int)) = some c_ from hc1_]
   simp only [Option.bind_some]
   by_cases g : key (gtI xs (mid + m - 1 - (s + r) / 2)) < key (gtI xs ((s + r) / 2))
   ·simp only [show c_ < 0 from hc2_.2 g, if_true]
    refine ih2 ((s + r) / 2 - s) (by omega) s ((s + r) / 2) rfl hls (by omega) (by omega) hlo (fun c c1 c2 => ?_)
    have q1 := h1.le (s := (s + r) / 2) (t := c) (by omega) c1 (by omega)
    have q2 := h2.le (s := mid + m - 1 - c) (t := mid + m - 1 - (s + r) / 2) (by omega) (by omega) (by omega)
    omega
   ·simp only [show ¬ c_ < 0 from fun z => g (hc2_.1 z), if_false]
    refine ih2 (r - ((s + r) / 2 + 1)) (by omega) ((s + r) / 2 + 1) r rfl (by omega) (by omega) hrh (fun c c1 c2 => ?_) hhi
    have q1 := h1.le (s := c) (t := (s + r) / 2) (by omega) (by omega) (by omega)
    have q2 := h2.le (s := mid + m - 1 - (s + r) / 2) (t := mid + m - 1 - c) (by omega) (by omega) (by omega)
    omega
  ·obtain rfl : s = r := by omega
   simp only [show ¬ (s : Int) < (s : Int) from by omega, if_false]
   rw [sub_I (x := mid + m) (y := s) (by omega) (by omega)]
   have key6 := sym_j6I key p n ih a s m mid (mid + m - s) b xs hn1 hn2 hb hc (by omega) (by omega) h1 h2 (fun x y x1 x2 y1 y2 => by
     by_cases q : lo < s
     ·have z1 := hlo (s - 1) (by omega) (by omega)
      rw [show mid + m - 1 - (s - 1) = mid + m - s from by omega] at z1
      exact Int.le_trans (h1.le x1 (show x ≤ s - 1 by omega) (by omega)) (Int.le_trans z1 (h2.le (s := mid + m - s) (by omega) y1 y2))
     ·exfalso; omega)
    (fun x y x1 x2 y1 y2 => by
     by_cases q : s < hi
     ·have z1 := hhi s (Nat.le_refl _) q
      exact Int.le_trans (h2.le x1 (show x ≤ mid + m - 1 - s by omega) (by omega)) (Int.le_trans (Int.le_of_lt z1) (h1.le (s := s) (by omega) y1 y2))
     ·exfalso; omega)
   by_cases g : s < m
   ·simp only [show (s : Int) < (m : Int) from by omega, if_true]
    rw [show decide ((m : Int) < ((mid + m - s : Nat) : Int)) = decide (s < m ∧ m < mid + m - s) from by
     by_cases w : m < mid + m - s
     ·rw [decide_eq_true (show (m : Int) < ((mid + m - s : Nat) : Int) by omega), decide_eq_true ⟨g, w⟩]
     ·rw [decide_eq_false (show ¬ (m : Int) < ((mid + m - s : Nat) : Int) by omega), decide_eq_false (fun z => w z.2)]]
    exact key6
   ·simp only [show ¬ (s : Int) < (m : Int) from by omega, if_false]
    rw [decide_eq_false (fun z => g z.1)] at key6
    exact key6
theorem sym_allI (key : Itm → Int) (p : Itm → Itm → Option Int) : ∀ n, MergesI key p n := by
 intro n
 induction n with
 | zero => intro a m b xs h0 h1 h2; omega
 | succ n ih =>
  intro a m b xs h0 h1 h2 hb hc s1 s2
  have hl := hc.lim
  refine Ev.exsuccI ?_
  simp only [impl_Item_85.f, eta_i]
  rw [sub_I (x := m) (y := a) (by omega) (by omega), sub_I (x := b) (y := m) (by omega) (by omega), half_I (x := a) (y := b) (by omega) (by omega)]
  by_cases c1 : m - a = 1
  ·simp only [show ((m - a : Nat) : Int) = 1 from by omega, if_true]
   obtain rfl : m = a + 1 := by omega
   exact sym_l0I key p a b xs hc (by omega) hb s2 (b - (a + 1)) (a + 1) b rfl (by omega) (by omega) (Nat.le_refl _) (fun t t1 t2 => by omega) (fun t t1 t2 => by omega)
  ·simp only [show ¬ ((m - a : Nat) : Int) = 1 from by omega, if_false]
   by_cases c2 : b - m = 1
   ·simp only [show ((b - m : Nat) : Int) = 1 from by omega, if_true]
    obtain rfl : b = m + 1 := by omega
    exact sym_l2I key p a m xs hc h1 hb s1 (m - a) a m rfl (by omega) (by omega) (Nat.le_refl _) (fun t t1 t2 => by omega) (fun t t1 t2 => by omega)
   ·simp only [show ¬ ((b - m : Nat) : Int) = 1 from by omega, if_false]
    rw [add_I (x := (a + b) / 2) (y := m) (by omega) (by omega)]
    by_cases c3 : m > (a + b) / 2
    ·simp only [show (m : Int) > (((a + b) / 2 : Nat) : Int) from by omega, if_true]
     rw [sub_I (x := (a + b) / 2 + m) (y := b) (by omega) (by omega)]
     refine Ev.exsuccI ?_
     simp only [impl_Item_85.j4, eta_i]
     rw [show (((a + b) / 2 + m : Nat) : Int) - 1 = (((a + b) / 2 + m : Nat) : Int) - ((1 : Nat) : Int) from rfl, sub_I (x := (a + b) / 2 + m) (y := 1) (by omega) (by omega)]
     exact sym_l4I key p n ih a m b ((a + b) / 2) ((a + b) / 2 + m - b) ((a + b) / 2) xs rfl ⟨h1, h2⟩ (by omega) (by omega) hb hc s1 s2 (.inl ⟨c3, rfl, rfl⟩) _ _ _ rfl (Nat.le_refl _) (by omega) (Nat.le_refl _) (fun c t1 t2 => by omega) (fun c t1 t2 => by omega)
    ·simp only [show ¬ (m : Int) > (((a + b) / 2 : Nat) : Int) from by omega, if_false]
     refine Ev.exsuccI ?_
     simp only [impl_Item_85.j4, eta_i]
     rw [show (((a + b) / 2 + m : Nat) : Int) - 1 = (((a + b) / 2 + m : Nat) : Int) - ((1 : Nat) : Int) from rfl, sub_I (x := (a + b) / 2 + m) (y := 1) (by omega) (by omega)]
     exact sym_l4I key p n ih a m b ((a + b) / 2) a m xs rfl ⟨h1, h2⟩ (by omega) (by omega) hb hc s1 s2 (.inr ⟨by omega, rfl, rfl⟩) _ _ _ rfl (Nat.le_refl _) (by omega) (Nat.le_refl _) (fun c t1 t2 => by omega) (fun c t1 t2 => by omega)
end Q
end Go.Proofs.Ytkimdmdkldlhpaa
