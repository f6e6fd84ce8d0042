/-
A stable sort of items by a key: what it leaves is of the same numbers, and sorted. First: two places changed, rows of one place, blocks that change places.
-/
import Derived.Test.YtkimdmdkldlhpaaKCQ67
namespace Go.Proofs.Ytkimdmdkldlhpaa
open Go.RowKit Go.Proofs.YtkimdmdkldlhpaaW.PrintWords Go.Proofs.YtkimdmdkldlhpaaW.PrintLast Go.Proofs.YtkimdmdkldlhpaaW.PrintMore Go.Proofs.Ytkimdmdkldlhpaa.PA
set_option linter.unusedVariables false
set_option linter.unusedSimpArgs false
namespace Q
theorem Ev.exsuccI {ρ : Type} {g : Nat → Option ρ} {P : ρ → Prop} (h : ∃ r, Ev (fun k => g (k + 1)) r ∧ P r) : ∃ r, Ev g r ∧ P r := by
 obtain ⟨r, h1, h2⟩ := h
 exact ⟨r, Ev.succ h1, h2⟩
theorem Ev.exbindI {α ρ : Type} {g : Nat → Option α} {f : Nat → α → Option ρ} {a : α} {P : ρ → Prop} (h : Ev g a) (k : ∃ r, Ev (fun n => f n a) r ∧ P r) : ∃ r, Ev (fun n => (g n).bind (f n)) r ∧ P r := by
 obtain ⟨r, h1, h2⟩ := k
 exact ⟨r, Ev.bind h h1, h2⟩
theorem eta_i (x : Itm) : (⟨x.f0, x.f1⟩ : Itm) = x := rfl
def gtI (xs : List Itm) (t : Nat) : Itm := rd_T52 xs (t : Int)
theorem gt_atI {xs : List Itm} {t : Nat} (h : t < xs.length) : gtI xs t = xs[t] := rdItm xs t h
theorem gt_setI {xs : List Itm} {i : Nat} (hi : i < xs.length) (v : Itm) (t : Nat) : gtI (xs.set i v) t = if t = i then v else gtI xs t := by
 unfold gtI rd_T52
 simp only [Int.toNat_natCast, List.getD_eq_getElem?_getD, List.getElem?_set]
 by_cases h : t = i
 ·subst h; simp [hi]
 ·rw [if_neg h, if_neg (fun z => h z.symm)]
def swI (xs : List Itm) (i j : Nat) : List Itm := (xs.set i (gtI xs j)).set j (gtI xs i)
theorem sw_lenI (xs : List Itm) (i j : Nat) : (swI xs i j).length = xs.length := by simp [swI]
theorem gt_swI {xs : List Itm} {i j : Nat} (hi : i < xs.length) (hj : j < xs.length) (t : Nat) : gtI (swI xs i j) t = if t = j then gtI xs i else if t = i then gtI xs j else gtI xs t := by
 unfold swI
 rw [gt_setI (by simpa using hj), gt_setI hi]
structure SubI (a b : Nat) (xs ys : List Itm) : Prop where
 len : ys.length = xs.length
 out : ∀ t, (t < a ∨ b ≤ t) → gtI ys t = gtI xs t
 inn : ∀ t, a ≤ t → t < b → ∃ s, a ≤ s ∧ s < b ∧ gtI ys t = gtI xs s
 prm : ys.Perm xs
theorem SubI.refl (a b : Nat) (xs : List Itm) : SubI a b xs xs := ⟨rfl, fun _ _ => rfl, fun t h1 h2 => ⟨t, h1, h2, rfl⟩, .refl _⟩
theorem SubI.trans {a b : Nat} {xs ys zs : List Itm} (h : SubI a b xs ys) (k : SubI a b ys zs) : SubI a b xs zs :=
 ⟨k.len.trans h.len, fun t ht => (k.out t ht).trans (h.out t ht), fun t h1 h2 => by
  obtain ⟨s, s1, s2, e⟩ := k.inn t h1 h2
  obtain ⟨u, u1, u2, e'⟩ := h.inn s s1 s2
  exact ⟨u, u1, u2, e.trans e'⟩, k.prm.trans h.prm⟩
theorem SubI.wide {a b a' b' : Nat} {xs ys : List Itm} (h : SubI a' b' xs ys) (ha : a ≤ a') (hb : b' ≤ b) : SubI a b xs ys :=
 ⟨h.len, fun t ht => h.out t (by omega), fun t h1 h2 => by
  by_cases hi : a' ≤ t ∧ t < b'
  ·obtain ⟨s, s1, s2, e⟩ := h.inn t hi.1 hi.2
   exact ⟨s, by omega, by omega, e⟩
  ·exact ⟨t, h1, h2, h.out t (by omega)⟩, h.prm⟩
theorem sub_swI {a b i j : Nat} {xs : List Itm} (h1 : a ≤ i) (h2 : i < b) (h3 : a ≤ j) (h4 : j < b) (hb : b ≤ xs.length) : SubI a b xs (swI xs i j) := by
 have hi : i < xs.length := by omega
 have hj : j < xs.length := by omega
 refine ⟨sw_lenI xs i j, fun t ht => ?_, fun t t1 t2 => ?_, ?_⟩
 ·rw [gt_swI hi hj, if_neg (by omega), if_neg (by omega)]
 ·rw [gt_swI hi hj]
  by_cases e1 : t = j
  ·rw [if_pos e1]; exact ⟨i, h1, h2, rfl⟩
  ·rw [if_neg e1]
   by_cases e2 : t = i
   ·rw [if_pos e2]; exact ⟨j, h3, h4, rfl⟩
   ·rw [if_neg e2]; exact ⟨t, t1, t2, rfl⟩
 ·unfold swI
  rw [gt_atI hi, gt_atI hj]
  exact List.set_set_perm hi hj
structure CmI (p : Itm → Itm → Option Int) (key : Itm → Int) (xs : List Itm) : Prop where
 lim : xs.length ≤ 1100000
 cmp : ∀ s t, s < xs.length → t < xs.length → ∃ c, p (gtI xs s) (gtI xs t) = some c ∧ (c < 0 ↔ key (gtI xs s) < key (gtI xs t))
theorem CmI.sub {p : Itm → Itm → Option Int} {key : Itm → Int} {a b : Nat} {xs ys : List Itm} (h : CmI p key xs) (k : SubI a b xs ys) (hb : b ≤ xs.length) : CmI p key ys := by
 have one : ∀ s, s < ys.length → ∃ u, u < xs.length ∧ gtI ys s = gtI xs u := by
  intro s hs
  rw [k.len] at hs
  by_cases hi : a ≤ s ∧ s < b
  ·obtain ⟨u, u1, u2, e⟩ := k.inn s hi.1 hi.2
   exact ⟨u, by omega, e⟩
  ·exact ⟨s, hs, k.out s (by omega)⟩
 refine ⟨by rw [k.len]; exact h.lim, fun s t hs ht => ?_⟩
 obtain ⟨u, hu, e⟩ := one s hs
 obtain ⟨v, hv, e'⟩ := one t ht
 rw [e, e']
 exact h.cmp u v hu hv
def SrtI (key : Itm → Int) (xs : List Itm) (a b : Nat) : Prop := ∀ s t, a ≤ s → s < t → t < b → key (gtI xs s) ≤ key (gtI xs t)
theorem SrtI.nar {key : Itm → Int} {xs : List Itm} {a b a' b' : Nat} (h : SrtI key xs a b) (ha : a ≤ a') (hb : b' ≤ b) : SrtI key xs a' b' := fun s t h1 h2 h3 => h s t (by omega) h2 (by omega)
theorem SrtI.of {key : Itm → Int} {xs ys : List Itm} {a b : Nat} (h : SrtI key xs a b) (he : ∀ t, a ≤ t → t < b → gtI ys t = gtI xs t) : SrtI key ys a b := fun s t h1 h2 h3 => by rw [he s h1 (by omega), he t (by omega) h3]; exact h s t h1 h2 h3
theorem SrtI.le {key : Itm → Int} {xs : List Itm} {a b : Nat} (h : SrtI key xs a b) {s t : Nat} (h1 : a ≤ s) (h2 : s ≤ t) (h3 : t < b) : key (gtI xs s) ≤ key (gtI xs t) := by
 rcases Nat.lt_or_eq_of_le h2 with h4 | rfl
 ·exact h s t h1 h4 h3
 ·exact Int.le_refl _
theorem half_I {x y : Nat} (hx : x ≤ 11000000) (hy : y ≤ 11000000) : wrap64 ((IntKind.u64.wrap (wrap64 ((x : Int) + (y : Int)))) / 2) = (((x + y) / 2 : Nat) : Int) := by
 rw [w64 (n := (x : Int) + y) (by omega) (by omega), IntKind.wrap_u64, w64 (by omega) (by omega)]
 omega
theorem add_I {x y : Nat} (hx : x ≤ 11000000) (hy : y ≤ 11000000) : wrap64 ((x : Int) + (y : Int)) = ((x + y : Nat) : Int) := by rw [w64 (by omega) (by omega)]; omega
theorem sub_I {x y : Nat} (hx : x ≤ 11000000) (hy : y ≤ x) : wrap64 ((x : Int) - (y : Int)) = ((x - y : Nat) : Int) := by rw [w64 (by omega) (by omega)]; omega
theorem upnI {x : Nat} (hx : x ≤ 11000000) : wrap64 ((x : Int) + 1) = ((x + 1 : Nat) : Int) := by rw [w64 (by omega) (by omega)]; omega
theorem dnnI {x : Nat} (hx : x ≤ 11000000) : wrap64 (((x + 1 : Nat) : Int) - 1) = (x : Int) := by rw [w64 (by omega) (by omega)]; omega
theorem sw_eqI (xs : List Itm) (i j : Nat) : (xs.set ((i : Nat) : Int).toNat (rd_T52 xs (j : Int))).set ((j : Nat) : Int).toNat (rd_T52 xs (i : Int)) = swI xs i j := by simp [swI, gtI]
theorem swap_l0I (a b m : Nat) (hab : a + m ≤ b) : ∀ (d i : Nat) (xs : List Itm), m - i = d → i ≤ m → b + m ≤ xs.length → xs.length ≤ 1100000 →
  ∃ ys, Ev (fun k => impl_Item_93.l0 k xs (a : Int) (b : Int) (m : Int) (i : Int)) ys ∧ (SubI a (b + m) xs ys ∧ ∀ t, gtI ys t = if a + i ≤ t ∧ t < a + m then gtI xs (t - a + b) else if b + i ≤ t ∧ t < b + m then gtI xs (t - b + a) else gtI xs t) := by
 intro d
 induction d with
 | zero =>
  intro i xs hd hi hx hl
  obtain rfl : i = m := by omega
  refine Ev.exsuccI ?_
  simp only [impl_Item_93.l0, eta_i]
  simp only [show ¬ (i : Int) < (i : Int) from by omega, if_false]
  exact ⟨xs, Ev.now xs, SubI.refl _ _ _, fun t => by rw [if_neg (by omega), if_neg (by omega)]⟩
 | succ d ih =>
  intro i xs hd hi hx hl
  refine Ev.exsuccI ?_
  simp only [impl_Item_93.l0, eta_i]
  rw [add_I (x := b) (y := i) (by omega) (by omega), add_I (x := a) (y := i) (by omega) (by omega), upnI (x := i) (by omega), sw_eqI xs (a + i) (b + i)]
  simp only [show (i : Int) < (m : Int) from by omega, show (0 : Int) ≤ ((b + i : Nat) : Int) from by omega, show ((b + i : Nat) : Int) < (xs.length : Int) from by omega, show (0 : Int) ≤ ((a + i : Nat) : Int) from by omega, show ((a + i : Nat) : Int) < (xs.length : Int) from by omega, if_true]
  obtain ⟨ys, h1, h2, h3⟩ := ih (i + 1) (swI xs (a + i) (b + i)) (by omega) (by omega) (by rw [sw_lenI]; exact hx) (by rw [sw_lenI]; exact hl)
  refine ⟨ys, h1, (sub_swI (by omega) (by omega) (by omega) (by omega) (by omega)).trans h2, fun t => ?_⟩
  rw [h3 t]
  have hs := fun u => gt_swI (xs := xs) (i := a + i) (j := b + i) (by omega) (by omega) u
  simp only [hs]
  repeat' split
  all_goals first | omega | (congr 1 <;> omega)
theorem swapRangeI (p : Itm → Itm → Option Int) (a b m : Nat) (hab : a + m ≤ b) (xs : List Itm) (hx : b + m ≤ xs.length) (hl : xs.length ≤ 1100000) :
  ∃ ys, Ev (fun k => impl_Item_93.f k xs (a : Int) (b : Int) (m : Int) p) ys ∧ (SubI a (b + m) xs ys ∧ ∀ t, gtI ys t = if a ≤ t ∧ t < a + m then gtI xs (t - a + b) else if b ≤ t ∧ t < b + m then gtI xs (t - b + a) else gtI xs t) := by
 unfold impl_Item_93.f
 exact swap_l0I a b m hab m 0 xs (by omega) (by omega) hx hl
def RotI (s m e : Nat) (xs ys : List Itm) : Prop := ∀ t, gtI ys t = if s ≤ t ∧ t < s + (e - m) then gtI xs (t + (m - s)) else if s + (e - m) ≤ t ∧ t < e then gtI xs (t - (e - m)) else gtI xs t
theorem rot_l0I (p : Itm → Itm → Option Int) (m : Nat) : ∀ (d i j : Nat) (xs : List Itm), i + j = d → 0 < i → 0 < j → i ≤ m → m + j ≤ xs.length → xs.length ≤ 1100000 →
  ∃ ys, Ev (fun k => impl_Item_91.l0 k xs (m : Int) p (i : Int) (j : Int)) ys ∧ (SubI (m - i) (m + j) xs ys ∧ RotI (m - i) m (m + j) xs ys) := by
 intro d
 induction d using Nat.strongRecOn with
 | _ d ih =>
  intro i j xs hd hi hj him hx hl
  refine Ev.exsuccI ?_
  simp only [impl_Item_91.l0, eta_i]
  rw [sub_I (x := m) (y := i) (by omega) (by omega), add_I (x := m) (y := j) (by omega) (by omega)]
  by_cases e : i = j
  ·subst e
   simp only [if_true]
   obtain ⟨ys, h1, h2, h3⟩ := swapRangeI p (m - i) m i (by omega) xs (by omega) hl
   refine Ev.exbindI h1 ⟨ys, Ev.now ys, h2, fun t => ?_⟩
   rw [h3 t]
   repeat' split
   all_goals first | omega | (congr 1 <;> omega)
  ·simp only [show ¬ (i : Int) = (j : Int) from by omega, if_false]
   by_cases g : j < i
   ·simp only [show (i : Int) > (j : Int) from by omega, if_true]
    rw [sub_I (x := i) (y := j) (by omega) (by omega)]
    obtain ⟨ys, h1, h2, h3⟩ := swapRangeI p (m - i) m j (by omega) xs (by omega) hl
    obtain ⟨zs, k1, k2, k3⟩ := ih (i - j + j) (by omega) (i - j) j ys rfl (by omega) hj (by omega) (by rw [h2.len]; exact hx) (by rw [h2.len]; exact hl)
    refine Ev.exbindI h1 ⟨zs, k1, h2.trans (k2.wide (by omega) (by omega)), fun t => ?_⟩
    rw [k3 t]
    simp only [h3]
    repeat' split
    all_goals first | omega | (congr 1 <;> omega)
   ·simp only [show ¬ (i : Int) > (j : Int) from by omega, if_false]
    rw [sub_I (x := j) (y := i) (by omega) (by omega), sub_I (x := m + j) (y := i) (by omega) (by omega)]
    obtain ⟨ys, h1, h2, h3⟩ := swapRangeI p (m - i) (m + j - i) i (by omega) xs (by omega) hl
    rw [show m + j - i + i = m + j from by omega] at h2 h3
    obtain ⟨zs, k1, k2, k3⟩ := ih (i + (j - i)) (by omega) i (j - i) ys rfl hi (by omega) him (by rw [h2.len]; omega) (by rw [h2.len]; exact hl)
    refine Ev.exbindI h1 ⟨zs, k1, h2.trans (k2.wide (by omega) (by omega)), fun t => ?_⟩
    rw [k3 t]
    simp only [h3]
    repeat' split
    all_goals first | omega | (congr 1 <;> omega)
theorem rotateI (p : Itm → Itm → Option Int) (s m e : Nat) (h1 : s < m) (h2 : m < e) (xs : List Itm) (hx : e ≤ xs.length) (hl : xs.length ≤ 1100000) :
  ∃ ys, Ev (fun k => impl_Item_91.f k xs (s : Int) (m : Int) (e : Int) p) ys ∧ (SubI s e xs ys ∧ RotI s m e xs ys) := by
 unfold impl_Item_91.f
 rw [sub_I (x := m) (y := s) (by omega) (by omega), sub_I (x := e) (y := m) (by omega) (by omega)]
 have := rot_l0I p m (m - s + (e - m)) (m - s) (e - m) xs rfl (by omega) (by omega) (by omega) (by omega) hl
 rwa [show m - (m - s) = s from by omega, show m + (e - m) = e from by omega] at this
end Q
end Go.Proofs.Ytkimdmdkldlhpaa
