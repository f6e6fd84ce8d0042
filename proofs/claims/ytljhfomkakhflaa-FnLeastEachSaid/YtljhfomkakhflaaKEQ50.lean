/-
A stable sort of whole numbers by a key: what it leaves is of the same numbers, and sorted. First: two places changed, rows of one place, blocks that change places.
-/
import Derived.Test.YtljhfomkakhflaaKEPAx11
import Derived.Test.YtljhfomkakhflaaKEQ61
namespace Go.Proofs.Ytljhfomkakhflaa
open Go.RowKit Go.Proofs.YtljhfomkakhflaaW.PrintWords Go.Proofs.YtljhfomkakhflaaW.PrintLast Go.Proofs.YtljhfomkakhflaaW.PrintMore Go.Proofs.Ytljhfomkakhflaa.PA
set_option linter.unusedVariables false
set_option linter.unusedSimpArgs false
namespace Q
def gt (xs : List Int) (t : Nat) : Int := rd xs (t : Int)
theorem gt_at {xs : List Int} {t : Nat} (h : t < xs.length) : gt xs t = xs[t] := rdI h
theorem gt_set {xs : List Int} {i : Nat} (hi : i < xs.length) (v : Int) (t : Nat) : gt (xs.set i v) t = if t = i then v else gt xs t := rd_setI hi v t
def sw (xs : List Int) (i j : Nat) : List Int := (xs.set i (gt xs j)).set j (gt xs i)
theorem sw_len (xs : List Int) (i j : Nat) : (sw xs i j).length = xs.length := by simp [sw]
theorem gt_sw {xs : List Int} {i j : Nat} (hi : i < xs.length) (hj : j < xs.length) (t : Nat) : gt (sw xs i j) t = if t = j then gt xs i else if t = i then gt xs j else gt xs t := by
 unfold sw
 rw [gt_set (by simpa using hj), gt_set hi]
theorem nod_iff (xs : List Int) : xs.Nodup ↔ ∀ i j, i < xs.length → j < xs.length → gt xs i = gt xs j → i = j := by
 constructor
 ·intro h i j hi hj e
  rw [gt_at hi, gt_at hj] at e
  have hp := List.pairwise_iff_getElem.1 h
  rcases Nat.lt_trichotomy i j with hlt | rfl | hlt
  ·exact absurd e (hp i j hi hj hlt)
  ·rfl
  ·exact absurd e.symm (hp j i hj hi hlt)
 ·intro h
  refine List.pairwise_iff_getElem.2 fun i j hi hj hlt e => ?_
  have := h i j hi hj (by rw [gt_at hi, gt_at hj]; exact e)
  omega
structure Sub (a b : Nat) (xs ys : List Int) : Prop where
 len : ys.length = xs.length
 out : ∀ t, (t < a ∨ b ≤ t) → gt ys t = gt xs t
 inn : ∀ t, a ≤ t → t < b → ∃ s, a ≤ s ∧ s < b ∧ gt ys t = gt xs s
 nod : xs.Nodup → ys.Nodup
theorem Sub.refl (a b : Nat) (xs : List Int) : Sub a b xs xs := ⟨rfl, fun _ _ => rfl, fun t h1 h2 => ⟨t, h1, h2, rfl⟩, id⟩
theorem Sub.trans {a b : Nat} {xs ys zs : List Int} (h : Sub a b xs ys) (k : Sub a b ys zs) : Sub a b xs zs :=
 ⟨k.len.trans h.len, fun t ht => (k.out t ht).trans (h.out t ht), fun t h1 h2 => by
  obtain ⟨s, s1, s2, e⟩ := k.inn t h1 h2
  obtain ⟨u, u1, u2, e'⟩ := h.inn s s1 s2
  exact ⟨u, u1, u2, e.trans e'⟩, fun hn => k.nod (h.nod hn)⟩
theorem Sub.wide {a b a' b' : Nat} {xs ys : List Int} (h : Sub a' b' xs ys) (ha : a ≤ a') (hb : b' ≤ b) : Sub a b xs ys :=
 ⟨h.len, fun t ht => h.out t (by omega), fun t h1 h2 => by
  by_cases hi : a' ≤ t ∧ t < b'
  ·obtain ⟨s, s1, s2, e⟩ := h.inn t hi.1 hi.2
   exact ⟨s, by omega, by omega, e⟩
  ·exact ⟨t, h1, h2, h.out t (by omega)⟩, h.nod⟩
theorem sub_sw {a b i j : Nat} {xs : List Int} (h1 : a ≤ i) (h2 : i < b) (h3 : a ≤ j) (h4 : j < b) (hb : b ≤ xs.length) : Sub a b xs (sw xs i j) := by
 have hi : i < xs.length := by omega
 have hj : j < xs.length := by omega
 refine ⟨sw_len xs i j, fun t ht => ?_, fun t t1 t2 => ?_, fun hn => ?_⟩
 ·rw [gt_sw hi hj, if_neg (by omega), if_neg (by omega)]
 ·rw [gt_sw hi hj]
  by_cases e1 : t = j
  ·rw [if_pos e1]; exact ⟨i, h1, h2, rfl⟩
  ·rw [if_neg e1]
   by_cases e2 : t = i
   ·rw [if_pos e2]; exact ⟨j, h3, h4, rfl⟩
   ·rw [if_neg e2]; exact ⟨t, t1, t2, rfl⟩
 ·rw [nod_iff] at hn ⊢
  rw [sw_len]
  intro u v hu hv e
  rw [gt_sw hi hj, gt_sw hi hj] at e
  repeat' split at e
  all_goals first | omega | (have := hn _ _ (by omega) (by omega) e; omega)
structure Cm (p : Int → Int → Option Int) (key : Int → Int) (xs : List Int) : Prop where
 lim : xs.length ≤ 100000
 cmp : ∀ s t, s < xs.length → t < xs.length → p (gt xs s) (gt xs t) = some (key (gt xs s) - key (gt xs t))
theorem Cm.sub {p : Int → Int → Option Int} {key : Int → Int} {a b : Nat} {xs ys : List Int} (h : Cm p key xs) (k : Sub a b xs ys) (hb : b ≤ xs.length) : Cm p key ys := by
 have one : ∀ s, s < ys.length → ∃ u, u < xs.length ∧ gt ys s = gt xs u := by
  intro s hs
  rw [k.len] at hs
  by_cases hi : a ≤ s ∧ s < b
  ·obtain ⟨u, u1, u2, e⟩ := k.inn s hi.1 hi.2
   exact ⟨u, by omega, e⟩
  ·exact ⟨s, hs, k.out s (by omega)⟩
 refine ⟨by rw [k.len]; exact h.lim, fun s t hs ht => ?_⟩
 obtain ⟨u, hu, e⟩ := one s hs
 obtain ⟨v, hv, e'⟩ := one t ht
 rw [e, e']
 exact h.cmp u v hu hv
def Srt (key : Int → Int) (xs : List Int) (a b : Nat) : Prop := ∀ s t, a ≤ s → s < t → t < b → key (gt xs s) ≤ key (gt xs t)
theorem Srt.nar {key : Int → Int} {xs : List Int} {a b a' b' : Nat} (h : Srt key xs a b) (ha : a ≤ a') (hb : b' ≤ b) : Srt key xs a' b' := fun s t h1 h2 h3 => h s t (by omega) h2 (by omega)
theorem Srt.of {key : Int → Int} {xs ys : List Int} {a b : Nat} (h : Srt key xs a b) (he : ∀ t, a ≤ t → t < b → gt ys t = gt xs t) : Srt key ys a b := fun s t h1 h2 h3 => by rw [he s h1 (by omega), he t (by omega) h3]; exact h s t h1 h2 h3
theorem Srt.le {key : Int → Int} {xs : List Int} {a b : Nat} (h : Srt key xs a b) {s t : Nat} (h1 : a ≤ s) (h2 : s ≤ t) (h3 : t < b) : key (gt xs s) ≤ key (gt xs t) := by
 rcases Nat.lt_or_eq_of_le h2 with h4 | rfl
 ·exact h s t h1 h4 h3
 ·exact Int.le_refl _
theorem nn (n : Nat) : (0 : Int) ≤ (n : Int) := Int.natCast_nonneg n
theorem half_ {x y : Nat} (hx : x ≤ 1000000) (hy : y ≤ 1000000) : wrap64 ((IntKind.u64.wrap (wrap64 ((x : Int) + (y : Int)))) / 2) = (((x + y) / 2 : Nat) : Int) := by
 rw [w64 (n := (x : Int) + y) (by omega) (by omega), IntKind.wrap_u64, w64 (by omega) (by omega)]
 omega
theorem add_ {x y : Nat} (hx : x ≤ 1000000) (hy : y ≤ 1000000) : wrap64 ((x : Int) + (y : Int)) = ((x + y : Nat) : Int) := by rw [w64 (by omega) (by omega)]; omega
theorem sub_ {x y : Nat} (hx : x ≤ 1000000) (hy : y ≤ x) : wrap64 ((x : Int) - (y : Int)) = ((x - y : Nat) : Int) := by rw [w64 (by omega) (by omega)]; omega
theorem upn {x : Nat} (hx : x ≤ 1000000) : wrap64 ((x : Int) + 1) = ((x + 1 : Nat) : Int) := by rw [w64 (by omega) (by omega)]; omega
theorem dnn {x : Nat} (hx : x ≤ 1000000) : wrap64 (((x + 1 : Nat) : Int) - 1) = (x : Int) := by rw [w64 (by omega) (by omega)]; omega
theorem sw_eq (xs : List Int) (i j : Nat) : (xs.set ((i : Nat) : Int).toNat (rd xs (j : Int))).set ((j : Nat) : Int).toNat (rd xs (i : Int)) = sw xs i j := by simp [sw, gt]
theorem swap_l0 (a b m : Nat) (hab : a + m ≤ b) : ∀ (d i : Nat) (xs : List Int), m - i = d → i ≤ m → b + m ≤ xs.length → xs.length ≤ 100000 →
  ∃ ys, Ev (fun k => slices_swapRangeCmpFunc_int.l0 k xs (a : Int) (b : Int) (m : Int) (i : Int)) ys ∧ (Sub a (b + m) xs ys ∧ ∀ t, gt ys t = if a + i ≤ t ∧ t < a + m then gt xs (t - a + b) else if b + i ≤ t ∧ t < b + m then gt xs (t - b + a) else gt xs t) := by
 intro d
 induction d with
 | zero =>
  intro i xs hd hi hx hl
  obtain rfl : i = m := by omega
  refine Ev.exsucc ?_
  simp only [slices_swapRangeCmpFunc_int.l0]
  simp only [show ¬ (i : Int) < (i : Int) from by omega, if_false]
  exact ⟨xs, Ev.now xs, Sub.refl _ _ _, fun t => by rw [if_neg (by omega), if_neg (by omega)]⟩
 | succ d ih =>
  intro i xs hd hi hx hl
  refine Ev.exsucc ?_
  simp only [slices_swapRangeCmpFunc_int.l0]
  rw [add_ (x := b) (y := i) (by omega) (by omega), add_ (x := a) (y := i) (by omega) (by omega), upn (x := i) (by omega), sw_eq xs (a + i) (b + i)]
  simp only [show (i : Int) < (m : Int) from by omega, show (0 : Int) ≤ ((b + i : Nat) : Int) from by omega, show ((b + i : Nat) : Int) < (xs.length : Int) from by omega, show (0 : Int) ≤ ((a + i : Nat) : Int) from by omega, show ((a + i : Nat) : Int) < (xs.length : Int) from by omega, if_true]
  obtain ⟨ys, h1, h2, h3⟩ := ih (i + 1) (sw xs (a + i) (b + i)) (by omega) (by omega) (by rw [sw_len]; exact hx) (by rw [sw_len]; exact hl)
  refine ⟨ys, h1, (sub_sw (by omega) (by omega) (by omega) (by omega) (by omega)).trans h2, fun t => ?_⟩
  rw [h3 t]
  have hs := fun u => gt_sw (xs := xs) (i := a + i) (j := b + i) (by omega) (by omega) u
  simp only [hs]
  repeat' split
  all_goals first | omega | (congr 1; omega)
theorem swapRange (p : Int → Int → Option Int) (a b m : Nat) (hab : a + m ≤ b) (xs : List Int) (hx : b + m ≤ xs.length) (hl : xs.length ≤ 100000) :
  ∃ ys, Ev (fun k => slices_swapRangeCmpFunc_int.f k xs (a : Int) (b : Int) (m : Int) p) ys ∧ (Sub a (b + m) xs ys ∧ ∀ t, gt ys t = if a ≤ t ∧ t < a + m then gt xs (t - a + b) else if b ≤ t ∧ t < b + m then gt xs (t - b + a) else gt xs t) := by
 unfold slices_swapRangeCmpFunc_int.f
 exact swap_l0 a b m hab m 0 xs (by omega) (by omega) hx hl
def Rot (s m e : Nat) (xs ys : List Int) : Prop := ∀ t, gt ys t = if s ≤ t ∧ t < s + (e - m) then gt xs (t + (m - s)) else if s + (e - m) ≤ t ∧ t < e then gt xs (t - (e - m)) else gt xs t
theorem rot_l0 (p : Int → Int → Option Int) (m : Nat) : ∀ (d i j : Nat) (xs : List Int), i + j = d → 0 < i → 0 < j → i ≤ m → m + j ≤ xs.length → xs.length ≤ 100000 →
  ∃ ys, Ev (fun k => slices_rotateCmpFunc_int.l0 k xs (m : Int) p (i : Int) (j : Int)) ys ∧ (Sub (m - i) (m + j) xs ys ∧ Rot (m - i) m (m + j) xs ys) := by
 intro d
 induction d using Nat.strongRecOn with
 | _ d ih =>
  intro i j xs hd hi hj him hx hl
  refine Ev.exsucc ?_
  simp only [slices_rotateCmpFunc_int.l0]
  rw [sub_ (x := m) (y := i) (by omega) (by omega), add_ (x := m) (y := j) (by omega) (by omega)]
  by_cases e : i = j
  ·subst e
   simp only [if_true]
   obtain ⟨ys, h1, h2, h3⟩ := swapRange p (m - i) m i (by omega) xs (by omega) hl
   refine Ev.exbind h1 ⟨ys, Ev.now ys, h2, fun t => ?_⟩
   rw [h3 t]
   repeat' split
   all_goals first | omega | (congr 1; omega)
  ·simp only [show ¬ (i : Int) = (j : Int) from by omega, if_false]
   by_cases g : j < i
   ·simp only [show (i : Int) > (j : Int) from by omega, if_true]
    rw [sub_ (x := i) (y := j) (by omega) (by omega)]
    obtain ⟨ys, h1, h2, h3⟩ := swapRange p (m - i) m j (by omega) xs (by omega) hl
    obtain ⟨zs, k1, k2, k3⟩ := ih (i - j + j) (by omega) (i - j) j ys rfl (by omega) hj (by omega) (by rw [h2.len]; exact hx) (by rw [h2.len]; exact hl)
    refine Ev.exbind h1 ⟨zs, k1, h2.trans (k2.wide (by omega) (by omega)), fun t => ?_⟩
    rw [k3 t]
    simp only [h3]
    repeat' split
    all_goals first | omega | (congr 1; omega)
   ·simp only [show ¬ (i : Int) > (j : Int) from by omega, if_false]
    rw [sub_ (x := j) (y := i) (by omega) (by omega), sub_ (x := m + j) (y := i) (by omega) (by omega)]
    obtain ⟨ys, h1, h2, h3⟩ := swapRange p (m - i) (m + j - i) i (by omega) xs (by omega) hl
    rw [show m + j - i + i = m + j from by omega] at h2 h3
    obtain ⟨zs, k1, k2, k3⟩ := ih (i + (j - i)) (by omega) i (j - i) ys rfl hi (by omega) him (by rw [h2.len]; omega) (by rw [h2.len]; exact hl)
    refine Ev.exbind h1 ⟨zs, k1, h2.trans (k2.wide (by omega) (by omega)), fun t => ?_⟩
    rw [k3 t]
    simp only [h3]
    repeat' split
    all_goals first | omega | (congr 1; omega)
theorem rotate (p : Int → Int → Option Int) (s m e : Nat) (h1 : s < m) (h2 : m < e) (xs : List Int) (hx : e ≤ xs.length) (hl : xs.length ≤ 100000) :
  ∃ ys, Ev (fun k => slices_rotateCmpFunc_int.f k xs (s : Int) (m : Int) (e : Int) p) ys ∧ (Sub s e xs ys ∧ Rot s m e xs ys) := by
 unfold slices_rotateCmpFunc_int.f
 rw [sub_ (x := m) (y := s) (by omega) (by omega), sub_ (x := e) (y := m) (by omega) (by omega)]
 have := rot_l0 p m (m - s + (e - m)) (m - s) (e - m) xs rfl (by omega) (by omega) (by omega) (by omega) hl
 rwa [show m - (m - s) = s from by omega, show m + (e - m) = e from by omega] at this
end Q
end Go.Proofs.Ytljhfomkakhflaa
