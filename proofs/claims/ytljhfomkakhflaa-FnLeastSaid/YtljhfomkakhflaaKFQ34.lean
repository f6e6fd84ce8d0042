/-
What is drawn: words whose circles are six.
-/
import Derived.Test.YtljhfomkakhflaaKFPAx13
import Derived.Test.YtljhfomkakhflaaKFQ52
import Derived.Test.YtljhfomkakhflaaKFPAx25
namespace Go.Proofs.Ytljhfomkakhflaa
open Go.RowKit Go.Proofs.YtljhfomkakhflaaW.PrintWords Go.Proofs.YtljhfomkakhflaaW.PrintLast Go.Proofs.YtljhfomkakhflaaW.PrintMore Go.Proofs.Ytljhfomkakhflaa.PA
set_option linter.unusedVariables false
set_option linter.unusedSimpArgs false
namespace Q
inductive zr (key : Int → Int) (xs : List Int) (bs n : Nat) : Nat → Prop
 | cons (a : Nat) (h : Srt key xs a (min (a + bs) n)) (t : a + bs ≤ n → zr key xs bs n (a + bs)) : zr key xs bs n a
theorem zr.head {key : Int → Int} {xs : List Int} {bs n a : Nat} (h : zr key xs bs n a) : Srt key xs a (min (a + bs) n) := by cases h; assumption
theorem zr.tail {key : Int → Int} {xs : List Int} {bs n a : Nat} (h : zr key xs bs n a) (hb : a + bs ≤ n) : zr key xs bs n (a + bs) := by
 cases h with
 | cons _ h t => exact t hb
theorem zr.of {key : Int → Int} {xs ys : List Int} {bs n : Nat} : ∀ {a : Nat}, zr key xs bs n a → (∀ t, a ≤ t → t < n → gt ys t = gt xs t) → zr key ys bs n a := by
 intro a h;induction h with
 | cons a h t ih => exact fun he => .cons a (h.of fun u u1 u2 => he u u1 (by omega)) fun hb => ih hb fun u u1 u2 => he u (by omega) u2
theorem VJ (key : Int → Int) (p : Int → Int → Option Int) (n bs : Nat) (hbs : 0 < bs) (hbn : bs < n)
  (next : ∀ xs, xs.length = n → Cm p key xs → zr key xs (bs * 2) n 0 → ∃ ys, Ev (fun k => Fg.l1 k xs (n : Int) p ((bs * 2 : Nat) : Int)) ys ∧ (Sub 0 n xs ys ∧ Srt key ys 0 n)) :
  ∀ (d a : Nat) (xs : List Int), n + bs * 2 - a ≤ d → a ≤ n → xs.length = n → Cm p key xs → zr key xs bs n a → (∀ zs : List Int, (∀ t, t < a → gt zs t = gt xs t) → zr key zs (bs * 2) n a → zr key zs (bs * 2) n 0) →
  ∃ ys, Ev (fun k => Fg.l2 k xs (n : Int) p (bs : Int) (a : Int) ((a + bs * 2 : Nat) : Int)) ys ∧ (Sub 0 n xs ys ∧ Srt key ys 0 n) := by
 intro d;induction d with
 | zero => intro a xs hd ha hx hc hr hp; omega
 | succ d ih =>
  intro a xs hd ha hx hc hr hp;have hl := hc.lim;refine Ev.exsucc ?_;simp only [Fg.l2];rw [QW (x := a) (y := bs) (by omega) (by omega), show wrap64 (2 * (bs : Int)) = ((bs * 2 : Nat) : Int) from by rw [w64 (by omega) (by omega)]; omega, show wrap64 ((bs : Int) * 2) = ((bs * 2 : Nat) : Int) from by rw [w64 (by omega) (by omega)]; omega];have g1 := hr.head;by_cases c1 : a + bs * 2 ≤ n
  ·simp only [show ((a + bs * 2 : Nat) : Int) ≤ (n : Int) from by omega, if_true];have r2 := hr.tail (by omega);have g2 := r2.head;have r3 := r2.tail (by omega);rw [show a + bs + bs = a + bs * 2 from by omega] at g2 r3;rw [Nat.min_eq_left (by omega)] at g1 g2;obtain ⟨ys, h1, h2, h3⟩ := Q1 key p (bs * 2) a (a + bs) (a + bs * 2) xs (by omega) (by omega) (by omega) (by omega) hc g1 g2;have hw := h2.wide (a := 0) (b := n) (by omega) (by omega);have hyl := h2.len;rw [QW (x := a + bs * 2) (y := bs * 2) (by omega) (by omega)];obtain ⟨zs, k1, k2, k3⟩ := ih (a + bs * 2) ys (by omega) (by omega) (by omega) (hc.sub hw (by omega)) (r3.of fun t t1 t2 => h2.out t (.inr t1)) (fun zs hz hr2 => hp zs (fun t ht => (hz t (by omega)).trans (h2.out t (.inl ht))) (.cons a (by rw [Nat.min_eq_left (by omega)]; exact h3.of fun t t1 t2 => hz t (by omega)) fun _ => hr2));exact Ev.exbind h1 ⟨zs, k1, hw.trans k2, k3⟩
  ·simp only [show ¬ ((a + bs * 2 : Nat) : Int) ≤ (n : Int) from by omega, if_false];by_cases c2 : a + bs < n
   ·simp only [show ((a + bs : Nat) : Int) < (n : Int) from by omega, if_true];have r2 := hr.tail (by omega);have g2 := r2.head;rw [Nat.min_eq_left (by omega)] at g1;rw [Nat.min_eq_right (by omega)] at g2;obtain ⟨ys, h1, h2, h3⟩ := Q1 key p n a (a + bs) n xs (by omega) (by omega) c2 (by omega) hc g1 g2;have hw := h2.wide (a := 0) (b := n) (by omega) (by omega);have hyl := h2.len;obtain ⟨zs, k1, k2, k3⟩ := next ys (by omega) (hc.sub hw (by omega)) (hp ys (fun t ht => h2.out t (.inl ht)) (.cons a (h3.nar (Nat.le_refl _) (by omega)) fun hb => by omega));exact Ev.exbind h1 ⟨zs, k1, hw.trans k2, k3⟩
   ·simp only [show ¬ ((a + bs : Nat) : Int) < (n : Int) from by omega, if_false];rw [Nat.min_eq_right (by omega)] at g1;exact next xs hx hc (hp xs (fun _ _ => rfl) (.cons a (g1.nar (Nat.le_refl _) (by omega)) fun hb => by omega))
theorem VE (key : Int → Int) (p : Int → Int → Option Int) (n : Nat) : ∀ (d bs : Nat) (xs : List Int), n - bs ≤ d → 0 < bs → bs ≤ 200000 → xs.length = n → Cm p key xs → zr key xs bs n 0 →
  ∃ ys, Ev (fun k => Fg.l1 k xs (n : Int) p (bs : Int)) ys ∧ (Sub 0 n xs ys ∧ Srt key ys 0 n) := by
 intro d;induction d with
 | zero =>
  intro bs xs hd hb hb2 hx hc hr;refine Ev.exsucc ?_;simp only [Fg.l1];simp only [show ¬ (bs : Int) < (n : Int) from by omega, if_false];have g := hr.head;rw [Nat.zero_add, Nat.min_eq_right (by omega)] at g;exact ⟨xs, Ev.now xs, Sub.refl _ _ _, g⟩
 | succ d ih =>
  intro bs xs hd hb hb2 hx hc hr;have hl := hc.lim;refine Ev.exsucc ?_;simp only [Fg.l1];by_cases c : bs < n
  ·simp only [show (bs : Int) < (n : Int) from by omega, if_true];rw [show wrap64 (2 * (bs : Int)) = ((0 + bs * 2 : Nat) : Int) from by rw [w64 (by omega) (by omega)]; omega];exact VJ key p n bs hb c (fun zs z1 z2 z3 => ih (bs * 2) zs (by omega) (by omega) (by omega) z1 z2 z3) (n + bs * 2) 0 xs (by omega) (by omega) hx hc hr (fun zs _ h => h)
  ·simp only [show ¬ (bs : Int) < (n : Int) from by omega, if_false];have g := hr.head;rw [Nat.zero_add, Nat.min_eq_right (by omega)] at g;exact ⟨xs, Ev.now xs, Sub.refl _ _ _, g⟩
theorem VM (key : Int → Int) (p : Int → Int → Option Int) (n : Nat) : ∀ (d a : Nat) (xs : List Int), n + 20 - a ≤ d → a ≤ n → xs.length = n → Cm p key xs → (∀ zs : List Int, (∀ t, t < a → gt zs t = gt xs t) → zr key zs 20 n a → zr key zs 20 n 0) →
  ∃ ys, Ev (fun k => Fg.l0 k xs (n : Int) p 20 (a : Int) ((a + 20 : Nat) : Int)) ys ∧ (Sub 0 n xs ys ∧ Srt key ys 0 n) := by
 intro d;induction d with
 | zero => intro a xs hd ha hx hc hp; omega
 | succ d ih =>
  intro a xs hd ha hx hc hp;have hl := hc.lim;refine Ev.exsucc ?_;simp only [Fg.l0];by_cases c1 : a + 20 ≤ n
  ·simp only [show ((a + 20 : Nat) : Int) ≤ (n : Int) from by omega, if_true];obtain ⟨ys, h1, h2, h3⟩ := jc key p a (a + 20) xs hc (by omega) (by omega);have hw := h2.wide (a := 0) (b := n) (by omega) (by omega);have hyl := h2.len;rw [show wrap64 (((a + 20 : Nat) : Int) + 20) = ((a + 20 + 20 : Nat) : Int) from by rw [w64 (by omega) (by omega)]; omega];obtain ⟨zs, k1, k2, k3⟩ := ih (a + 20) ys (by omega) (by omega) (by omega) (hc.sub hw (by omega)) (fun zs hz hr => hp zs (fun t ht => (hz t (by omega)).trans (h2.out t (.inl ht))) (.cons a (by rw [Nat.min_eq_left (by omega)]; exact h3.of fun t t1 t2 => hz t (by omega)) fun _ => hr));exact Ev.exbind h1 ⟨zs, k1, hw.trans k2, k3⟩
  ·simp only [show ¬ ((a + 20 : Nat) : Int) ≤ (n : Int) from by omega, if_false];obtain ⟨ys, h1, h2, h3⟩ := jc key p a n xs hc (by omega) (by omega);have hw := h2.wide (a := 0) (b := n) (by omega) (by omega);have hyl := h2.len;obtain ⟨zs, k1, k2, k3⟩ := VE key p n n 20 ys (by omega) (by omega) (by omega) (by omega) (hc.sub hw (by omega)) (hp ys (fun t ht => h2.out t (.inl ht)) (.cons a (h3.nar (Nat.le_refl _) (by omega)) fun hb => by omega));exact Ev.exbind h1 ⟨zs, k1, hw.trans k2, k3⟩
theorem QY (key : Int → Int) (p : Int → Int → Option Int) (xs : List Int) (hc : Cm p key xs) :
  ∃ ys, Ev (fun k => F3.f k xs p) ys ∧ (Sub 0 xs.length xs ys ∧ Srt key ys 0 xs.length) := by
 obtain ⟨ys, h1, h2⟩ := VM key p xs.length (xs.length + 20) 0 xs (by omega) (by omega) rfl hc (fun zs _ h => h);unfold F3.f Fg.f;exact Ev.exbind h1 ⟨ys, Ev.now ys, h2⟩
end Q
end Go.Proofs.Ytljhfomkakhflaa

namespace Go.Proofs.Ytljhfomkakhflaa
open Go.RowKit Go.Proofs.YtljhfomkakhflaaW.PrintWords Go.Proofs.YtljhfomkakhflaaW.PrintLast Go.Proofs.YtljhfomkakhflaaW.PrintMore Go.Proofs.Ytljhfomkakhflaa.PA
set_option linter.unusedVariables false
set_option linter.unusedSimpArgs false
namespace Q
def Cu (b : List Int) (i : Int) : Prop := 0 ≤ i ∧ i ≤ (b.length : Int) ∧ b.length ≤ 2097152
theorem jr (x : Int) : 0 ≤ Go.bits .and .i64 x 255 ∧ Go.bits .and .i64 x 255 ≤ 255 := by
 have h : (BitVec.ofInt 64 x &&& BitVec.ofInt 64 255).toNat ≤ 255 := by
  rw [BitVec.toNat_and];exact Nat.le_trans Nat.and_le_right (by decide)
 obtain ⟨n, hn⟩ : ∃ n, (BitVec.ofInt 64 x &&& BitVec.ofInt 64 255).toNat = n := ⟨_, rfl⟩;rw [hn] at h;have e : Go.bits .and .i64 x 255 = (n : Int) := by
  show IntKind.i64.wrap (((BitVec.ofInt 64 x &&& BitVec.ofInt 64 255).toNat : Nat) : Int) = _;rw [hn];exact QK _ (by omega) (by omega)
 rw [e];omega
theorem VN {b : List Int} {i : Int} (h : Int) (hc : Cu b i) : ∃ v i' h', Gl.f b i h = some (v, i', h') ∧ 0 ≤ v ∧ v ≤ 255 ∧ Cu b i' := by
 obtain ⟨h0, h1, h2⟩ := hc;unfold Gl.f;by_cases hl : i < (b.length : Int)
 ·rw [if_pos hl, if_pos h0];refine ⟨_, _, _, rfl, (jr _).1, (jr _).2, ?_⟩;rw [w64 (by omega) (by omega)];exact ⟨by omega, by omega, h2⟩
 ·rw [if_neg hl];exact ⟨_, _, _, rfl, (jr _).1, (jr _).2, h0, h1, h2⟩
theorem q9 {b : List Int} {i : Int} (h : Int) (hc : Cu b i) (n : Int) (hn : n ≤ 256) : ∃ v i' h', F4.f b i h n = some (v, i', h') ∧ Cu b i' ∧ 0 ≤ v ∧ (0 < n → v < n) ∧ (n ≤ 0 → v = 0) := by
 unfold F4.f;by_cases h0 : n ≤ 0
 ·rw [if_pos h0];exact ⟨_, _, _, rfl, hc, by omega, fun h => by omega, fun _ => rfl⟩
 ·rw [if_neg h0, if_pos hn];obtain ⟨v, i', h', e, v0, v1, c'⟩ := VN h hc;rw [e];simp only [Option.bind_some, show ¬ n = 0 by omega, ↓reduceIte];exact ⟨_, _, _, rfl, c', Int.tmod_nonneg _ v0, fun _ => Int.tmod_lt_of_pos _ (by omega), fun h => by omega⟩
theorem ju {b : List Int} {i : Int} (h : Int) (hc : Cu b i) : ∃ x y i' h', Gi.f b i h = some (x, y, i', h') ∧ Cu b i' ∧ qd x y = true := by
 unfold Gi.f;obtain ⟨x, i1, h1, e1, c1, x0, x1, _⟩ := q9 h hc 3 (by omega);obtain ⟨y, i2, h2, e2, c2, y0, y1, _⟩ := q9 h1 c1 2 (by omega);have := x1 (by omega);have := y1 (by omega);simp only [e1, e2, Option.bind_some];exact ⟨_, _, _, _, rfl, c2, Qg.2 (by omega)⟩
theorem VG (l : List Int) (hl : l.length ≤ 2097152) : ∃ h, Ev (fun k => Gf.f k l) (l, 0, h) := by
 have key : ∀ (d i : Nat) (s : Int), 4000 - i = d → ∃ h, Ev (fun k => Gf.l0 k l s i) (l, 0, h) := by
  intro d;induction d with
  | zero =>
   intro i s hd;refine ⟨s, Ev.succ ?_⟩;by_cases h1 : i < l.length
   ·simp only [Gf.l0, qc, h1, ↓reduceIte, show ¬ ((i : Int) < 4000) by omega];exact Ev.now _
   ·simp only [Gf.l0, qc, h1, ↓reduceIte];exact Ev.now _
  | succ d ih =>
   intro i s hd;by_cases h1 : i < l.length
   ·obtain ⟨h, e⟩ := ih (i + 1) (Go.bits .and .i64 (wrap64 ((wrap64 ((wrap64 (s * 131)) + (wrap64 (rd l i)))) + 7)) 1073741823) (by omega);refine ⟨h, Ev.succ ?_⟩;simp only [Gf.l0, qc, qe, h1, ↓reduceIte, show ((i : Int) < 4000) by omega, uq_ i];exact e
   ·refine ⟨s, Ev.succ ?_⟩;simp only [Gf.l0, qc, h1, ↓reduceIte];exact Ev.now _
 unfold Gf.f;exact key 4000 0 _ rfl
theorem Qz {b : List Int} {i : Int} (h : Int) (hc : Cu b i) (l : List Int) (h0 : 0 < l.length) (h1 : l.length ≤ 256) : ∃ v i' h', Gp.f b i h l = some (v, i', h') ∧ Cu b i' ∧ v ∈ l := by
 unfold Gp.f;obtain ⟨v, i1, h1, e1, c1, v0, v1, _⟩ := q9 h hc (l.length : Int) (by omega);have hv := v1 (by omega);simp only [e1, Option.bind_some, v0, hv, ↓reduceIte];refine ⟨_, _, _, rfl, c1, ?_⟩;show l.getD v.toNat 0 ∈ l;rw [qm _ (show v.toNat < l.length by omega)];exact List.getElem_mem _
theorem VF {b : List Int} {i : Int} (h : Int) (hc : Cu b i) : ∃ (t : Int × Int × Int × Int × Int × Int × Int × Int × Int × Int) (i' h' : Int), Gq.f b i h = some (t.1, t.2.1, t.2.2.1, t.2.2.2.1, t.2.2.2.2.1, t.2.2.2.2.2.1, t.2.2.2.2.2.2.1, t.2.2.2.2.2.2.2.1, t.2.2.2.2.2.2.2.2.1, t.2.2.2.2.2.2.2.2.2, i', h') ∧ Cu b i' := by
 unfold Gq.f;obtain ⟨kk, i1, h1, e1, c1, m1⟩ := Qz h hc [1, 1, 2, 3, 4] (by decide) (by decide);obtain ⟨ra, rb, i2, h2, e2, c2, _⟩ := ju h1 c1;obtain ⟨u, i3, h3, e3, c3, _⟩ := Qz h2 c2 [5, 50, 9999, 2] (by decide) (by decide);obtain ⟨nn, i4, h4, e4, c4, _⟩ := q9 h3 c3 2 (by omega);obtain ⟨w, i5, h5, e5, c5, _⟩ := q9 h4 c4 6 (by omega);obtain ⟨sa, sb, i6, h6, e6, c6, _⟩ := ju h4 c4;obtain ⟨z, i7, h7, e7, c7, _⟩ := q9 h6 c6 2 (by omega);obtain ⟨ta, tb, i8, h8, e8, c8, _⟩ := ju h6 c6;simp only [e1, e2, e3, e4, Option.bind_some];by_cases k1 : kk = 1
 ·simp only [k1, ↓reduceIte, e5, Option.bind_some];exact ⟨(_, _, _, _, _, _, _, _, _, _), _, _, rfl, c5⟩
 ·by_cases k2 : kk = 2
  ·simp only [k2, ↓reduceIte, show ¬ ((2 : Int) = 1) by omega, e6, Option.bind_some];exact ⟨(_, _, _, _, _, _, _, _, _, _), _, _, rfl, c6⟩
  ·by_cases k3 : kk = 3
   ·simp only [k3, ↓reduceIte, show ¬ ((3 : Int) = 1) by omega, show ¬ ((3 : Int) = 2) by omega, e6, e7, Option.bind_some];exact ⟨(_, _, _, _, _, _, _, _, _, _), _, _, rfl, c7⟩
   ·by_cases k4 : kk = 4
    ·simp only [k4, ↓reduceIte, show ¬ ((4 : Int) = 1) by omega, show ¬ ((4 : Int) = 2) by omega, show ¬ ((4 : Int) = 3) by omega, e6, e8, Option.bind_some];exact ⟨(_, _, _, _, _, _, _, _, _, _), _, _, rfl, c8⟩
    ·simp only [k1, k2, k3, k4, ↓reduceIte];exact ⟨(_, _, _, _, _, _, _, _, _, _), _, _, rfl, c4⟩
theorem QG (l : List Int) (hl : l.length ≤ 2097152) : ∃ r, Ev (fun k => Gk.f k l) r := by
 obtain ⟨h, e⟩ := VG l hl;obtain ⟨t, x', y', e2, _⟩ := VF (b := l) (i := 0) h ⟨by omega, by omega, hl⟩;refine ⟨t, ?_⟩;unfold Gk.f;refine Ev.bind e ?_;simp only [e2, Option.bind_some];exact Ev.now _
end Q
end Go.Proofs.Ytljhfomkakhflaa

namespace Go.Proofs.Ytljhfomkakhflaa
open Go.RowKit Go.Proofs.YtljhfomkakhflaaW.PrintWords Go.Proofs.YtljhfomkakhflaaW.PrintLast Go.Proofs.YtljhfomkakhflaaW.PrintMore Go.Proofs.Ytljhfomkakhflaa.PA
set_option linter.unusedVariables false
set_option linter.unusedSimpArgs false
namespace Q
def Six (list : List Cr) : Prop := ∀ c ∈ list, (0 ≤ c.f1.f0 ∧ c.f1.f0 < 3) ∧ 0 ≤ c.f1.f1 ∧ c.f1.f1 < 2
def Vn (list : List Cr) : Prop := ∀ c ∈ list, c.f0 = 1 → cOk c = true
theorem V9 {b : List Int} {i : Int} (h : Int) (hc : Cu b i) : ∃ x y i' h', Gi.f b i h = some (x, y, i', h') ∧ Cu b i' ∧ (0 ≤ x ∧ x < 3) ∧ 0 ≤ y ∧ y < 2 := by
 unfold Gi.f;obtain ⟨x, i1, h1, e1, c1, x0, x1, _⟩ := q9 h hc 3 (by omega);obtain ⟨y, i2, h2, e2, c2, y0, y1, _⟩ := q9 h1 c1 2 (by omega);have := x1 (by omega);have := y1 (by omega);simp only [e1, e2, Option.bind_some];exact ⟨_, _, _, _, rfl, c2, by omega⟩
theorem VC {b : List Int} {i : Int} (h : Int) (hc : Cu b i) : ∃ (t : Int × Int × Int × Int × Int × Int × Int × Int × Int × Int) (i' h' : Int), Gq.f b i h = some (t.1, t.2.1, t.2.2.1, t.2.2.2.1, t.2.2.2.2.1, t.2.2.2.2.2.1, t.2.2.2.2.2.2.1, t.2.2.2.2.2.2.2.1, t.2.2.2.2.2.2.2.2.1, t.2.2.2.2.2.2.2.2.2, i', h') ∧ Cu b i' ∧ ((0 ≤ t.2.1 ∧ t.2.1 < 3) ∧ 0 ≤ t.2.2.1 ∧ t.2.2.1 < 2) ∧ (t.1 = 1 → ql t.1 t.2.1 t.2.2.1 t.2.2.2.1 t.2.2.2.2.1 t.2.2.2.2.2.1 t.2.2.2.2.2.2.1 t.2.2.2.2.2.2.2.1 t.2.2.2.2.2.2.2.2.1 t.2.2.2.2.2.2.2.2.2 = true) := by
 unfold Gq.f;obtain ⟨kk, i1, h1, e1, c1, m1⟩ := Qz h hc [1, 1, 2, 3, 4] (by decide) (by decide);obtain ⟨ra, rb, i2, h2, e2, c2, q6⟩ := V9 h1 c1;obtain ⟨u, i3, h3, e3, c3, mu⟩ := Qz h2 c2 [5, 50, 9999, 2] (by decide) (by decide);obtain ⟨nn, i4, h4, e4, c4, n0, n1, _⟩ := q9 h3 c3 2 (by omega);obtain ⟨w, i5, h5, e5, c5, w0, w1, _⟩ := q9 h4 c4 6 (by omega);obtain ⟨sa, sb, i6, h6, e6, c6, _⟩ := ju h4 c4;obtain ⟨z, i7, h7, e7, c7, _⟩ := q9 h6 c6 2 (by omega);obtain ⟨ta, tb, i8, h8, e8, c8, _⟩ := ju h6 c6;simp only [e1, e2, e3, e4, Option.bind_some];by_cases k1 : kk = 1
 ·simp only [k1, ↓reduceIte, e5, Option.bind_some];exact ⟨(_, ra, rb, _, _, _, _, _, _, _), _, _, rfl, c5, q6, fun _ => by
   have hu : u = 5 ∨ u = 50 ∨ u = 9999 ∨ u = 2 := by simpa using mu
   have := n1 (by omega)
   have := w1 (by omega)
   simp only [ql, qd, inB]
   simp
   omega⟩
 ·by_cases k2 : kk = 2
  ·simp only [k2, ↓reduceIte, show ¬ ((2 : Int) = 1) by omega, e6, Option.bind_some];exact ⟨(_, ra, rb, _, _, _, _, _, _, _), _, _, rfl, c6, q6, fun e => absurd (show (2 : Int) = 1 from e) (by decide)⟩
  ·by_cases k3 : kk = 3
   ·simp only [k3, ↓reduceIte, show ¬ ((3 : Int) = 1) by omega, show ¬ ((3 : Int) = 2) by omega, e6, e7, Option.bind_some];exact ⟨(_, ra, rb, _, _, _, _, _, _, _), _, _, rfl, c7, q6, fun e => absurd (show (3 : Int) = 1 from e) (by decide)⟩
   ·by_cases k4 : kk = 4
    ·simp only [k4, ↓reduceIte, show ¬ ((4 : Int) = 1) by omega, show ¬ ((4 : Int) = 2) by omega, show ¬ ((4 : Int) = 3) by omega, e6, e8, Option.bind_some];exact ⟨(_, ra, rb, _, _, _, _, _, _, _), _, _, rfl, c8, q6, fun e => absurd (show (4 : Int) = 1 from e) (by decide)⟩
    ·simp only [k1, k2, k3, k4, ↓reduceIte];exact ⟨(_, ra, rb, _, _, _, _, _, _, _), _, _, rfl, c4, q6, fun e => absurd e k1⟩
theorem Six.snoc {l : List Cr} (h : Six l) {c : Cr} (hc : (0 ≤ c.f1.f0 ∧ c.f1.f0 < 3) ∧ 0 ≤ c.f1.f1 ∧ c.f1.f1 < 2) : Six (l ++ [c]) := by
 intro x hx;rcases List.mem_append.1 hx with hx | hx
 ·exact h x hx
 ·rw [List.mem_singleton.1 hx]; exact hc
theorem Vb {b : List Int} : ∀ (d i : Nat) (acc : List Cr) (x y : Int), 9 - i = d → i ≤ 9 → acc.length = i → Six acc → Vn acc → Cu b x → ∃ l x' y', Ev (fun k => F9.l0 k acc i b x y) (l, x', y') ∧ l.length ≤ 9 ∧ Cu b x' ∧ Six l ∧ Vn l := by
 intro d;induction d with
 | zero =>
  intro i acc x y hd hi ha hs hm hc;obtain ⟨v, x1, y1, e1, c1, v0, v1, _⟩ := q9 y hc 9 (by omega);have hv := v1 (by omega);refine ⟨acc, x1, y1, Ev.succ ?_, by omega, c1, hs, hm⟩;simp only [F9.l0, e1, Option.bind_some, w64 (n := 1 + v) (by omega) (by omega), show ¬ ((i : Int) < 1 + v) by omega, ↓reduceIte];exact Ev.now _
 | succ d ih =>
  intro i acc x y hd hi ha hs hm hc;obtain ⟨v, x1, y1, e1, c1, v0, v1, _⟩ := q9 y hc 9 (by omega);have hv := v1 (by omega);by_cases hlt : (i : Int) < 1 + v
  ·obtain ⟨t, x2, y2, e2, c2, q6, q7⟩ := VC y1 c1;obtain ⟨l, x', y', e, h1, h2, h3⟩ := ih (i + 1) (acc ++ [⟨t.1, ⟨t.2.1, t.2.2.1⟩, t.2.2.2.1, ⟨t.2.2.2.2.1, t.2.2.2.2.2.1⟩, ⟨t.2.2.2.2.2.2.1, t.2.2.2.2.2.2.2.1⟩, t.2.2.2.2.2.2.2.2.1, t.2.2.2.2.2.2.2.2.2⟩]) x2 y2 (by omega) (by omega) (by simp [ha]) (hs.snoc q6) (fun c hc => by
    rcases List.mem_append.1 hc with hc | hc
    ·exact hm c hc
    ·rw [List.mem_singleton.1 hc]; exact q7) c2
   refine ⟨l, x', y', Ev.succ ?_, h1, h2, h3⟩;simp only [F9.l0, e1, e2, Option.bind_some, w64 (n := 1 + v) (by omega) (by omega), hlt, ↓reduceIte, show acc.length < 1759218604441 by omega, uq_ i];exact e
  ·refine ⟨acc, x1, y1, Ev.succ ?_, by omega, c1, hs, hm⟩;simp only [F9.l0, e1, Option.bind_some, w64 (n := 1 + v) (by omega) (by omega), hlt, ↓reduceIte];exact Ev.now _
theorem vA {α : Type} {p q : α → Bool} : ∀ l : List α, (∀ x ∈ l, p x = true → q x = true) → l.countP p ≤ l.countP q := by
 intro l;induction l with
 | nil => intro _; simp
 | cons x l ih =>
  intro h;have i := ih (fun y hy => h y (List.mem_cons_of_mem _ hy));have hx := h x (List.mem_cons_self ..);rw [List.countP_cons, List.countP_cons];cases hp : p x
  ·cases hq : q x <;> simp <;> omega
  ·rw [hx hp]; simp; omega
theorem vw {α : Type} {p q : α → Bool} : ∀ l : List α, (∀ x ∈ l, p x = true → q x = true) → (∃ x ∈ l, q x = true ∧ p x = false) → l.countP p < l.countP q := by
 intro l;induction l with
 | nil => intro _ h; obtain ⟨x, hx, _⟩ := h; simp at hx
 | cons x l ih =>
  intro h he;have hm : ∀ y ∈ l, p y = true → q y = true := fun y hy => h y (List.mem_cons_of_mem _ hy);have i0 := vA l hm;have hx := h x (List.mem_cons_self ..);rw [List.countP_cons, List.countP_cons];obtain ⟨y, hy, hq, hp⟩ := he;rcases List.mem_cons.1 hy with rfl | hy
  ·rw [hq, hp]; simp; omega
  ·have i := ih hm ⟨y, hy, hq, hp⟩;cases hp2 : p x
   ·cases hq2 : q x <;> simp <;> omega
   ·rw [hx hp2]; simp; omega
theorem jG {α : Type} {p : α → Bool} (l : List α) (h : ∃ x ∈ l, p x = false) : l.countP p + 1 ≤ l.length := by
 have := vw (p := p) (q := fun _ => true) l (fun _ _ _ => rfl) (by obtain ⟨x, hx, e⟩ := h; exact ⟨x, hx, rfl, e⟩);have e : l.countP (fun _ => true) = l.length := by simp
 omega
theorem zS {f g : Int → Nat} : ∀ l : List Int, (∀ q ∈ l, f q ≤ g q) → (l.map f).sum ≤ (l.map g).sum := by
 intro l;induction l with
 | nil => intro _; simp
 | cons x l ih =>
  intro h;have i := ih (fun y hy => h y (List.mem_cons_of_mem _ hy));have hx := h x (List.mem_cons_self ..);simp only [List.map_cons, List.sum_cons];omega
theorem Q4 {f g : Int → Nat} : ∀ l : List Int, (∀ q ∈ l, f q ≤ g q) → (∃ q ∈ l, f q < g q) → (l.map f).sum < (l.map g).sum := by
 intro l;induction l with
 | nil => intro _ h; obtain ⟨x, hx, _⟩ := h; simp at hx
 | cons x l ih =>
  intro h he;have hm : ∀ y ∈ l, f y ≤ g y := fun y hy => h y (List.mem_cons_of_mem _ hy);have i0 := zS l hm;have hx := h x (List.mem_cons_self ..);simp only [List.map_cons, List.sum_cons];obtain ⟨y, hy, e⟩ := he;rcases List.mem_cons.1 hy with rfl | hy
  ·omega
  ·have i := ih hm ⟨y, hy, e⟩; omega
def six : List Rl := [⟨0, 0⟩, ⟨0, 1⟩, ⟨1, 0⟩, ⟨1, 1⟩, ⟨2, 0⟩, ⟨2, 1⟩]
theorem Q7 {x : Rl} (h : (0 ≤ x.f0 ∧ x.f0 < 3) ∧ 0 ≤ x.f1 ∧ x.f1 < 2) : x ∈ six := by
 obtain ⟨a, b⟩ := x;simp only at h;have ha : a = 0 ∨ a = 1 ∨ a = 2 := by omega
 have hb : b = 0 ∨ b = 1 := by omega
 rcases ha with rfl | rfl | rfl <;> rcases hb with rfl | rfl <;> simp [six]
section
variable (list : List Cr) (F : List Fc) (r : List Int)
structure Szs : Prop where
 right : qg F
 nod : F.Nodup
 good : qu list F r
 fix : qN list F r
 reach : ∀ i : Nat, i < F.length → ∃ t, Ach list F i t
 six : Six list
end
section
variable {list : List Cr} {F : List Fc} {r : List Int}
abbrev fc (F : List Fc) (i : Int) : Fc := rd_T28 F i
def At (F : List Fc) (i : Int) : Prop := 0 ≤ i ∧ i < (F.length : Int)
theorem Szs.pos (h : Szs list F r) {i : Int} (hi : At F i) : 1 ≤ rd r i ∧ rd r i ≤ 1000001 := qD h.good hi.1 hi.2
theorem Szs.ach (h : Szs list F r) {i : Int} (hi : At F i) : ∃ t, Ach list F i t := by
 have := h.reach i.toNat (by have := hi.1; have := hi.2; omega);rwa [Int.toNat_of_nonneg hi.1] at this
theorem Szs.kinds (h : Szs list F r) {c : Cr} (hc : c ∈ list) (ok : cOk c = true) {i : Int} (hi : At F i) {fr : List Int} (hw : Way F c (fc F i) fr) :
  (fc F i).f0 = c.f1 ∧ (fr = [] ∨ (∃ a, fr = [a] ∧ At F a ∧ (fc F a).f1 = (fc F i).f1) ∨ ∃ a b, fr = [a, b] ∧ At F a ∧ At F b ∧ ((fc F a).f1 = (fc F i).f1 ∨ (fc F a).f1 = (fc F b).f0.f0) ∧ (fc F b).f1 = (fc F i).f1) := by
 rcases qO ok with k | k | k | k
 ·obtain ⟨e, rfl⟩ := (Zt k).1 hw;exact ⟨by rw [e], .inl rfl⟩
 ·obtain ⟨e, a, ha, e2, rfl⟩ := (ZB h.right k).1 hw;exact ⟨e, .inr (.inl ⟨a, rfl, ha, by simp only [fc] at e2 ⊢; rw [e2]⟩)⟩
 ·obtain ⟨e, a, b, ⟨ha, e1⟩, ⟨hb, e2⟩, rfl⟩ := (Z0 h.right k).1 hw;exact ⟨e, .inr (.inr ⟨a, b, rfl, ha, hb, .inr (by simp only [fc] at e2 ⊢; rw [e2]), by simp only [fc] at e2 ⊢; rw [e2]⟩)⟩
 ·obtain ⟨e, a, b, ⟨ha, e1⟩, ⟨hb, e2⟩, rfl⟩ := (Z3 h.right h.nod k).1 hw;exact ⟨e, .inr (.inr ⟨a, b, rfl, ha, hb, .inl (by simp only [fc] at e1 ⊢; rw [e1]), by simp only [fc] at e2 ⊢; rw [e2]⟩)⟩
theorem zd {i t : Int} (h : Ach list F i t) : At F i ∧ ∃ c ∈ list, cOk c = true ∧ ∃ fr, Way F c (fc F i) fr ∧ ∃ s : Int → Int, t = zt (1 + (fr.map s).sum) ∧ ∀ a ∈ fr, Ach list F a (s a) := by
 obtain ⟨i, c, hc, ok, d, hd, h0, h1, hf, s, hs⟩ := h;exact ⟨⟨h0, h1⟩, c, hc, ok, d.f1, by unfold Way fc; rw [hf]; exact hd, s, rfl, hs⟩
theorem Szs.circle (h : Szs list F r) {i t : Int} (ha : Ach list F i t) : (fc F i).f0 ∈ Q.six := by
 obtain ⟨hi, c, hc, ok, fr, hw, _⟩ := zd ha;rw [(h.kinds hc ok hi hw).1];exact Q7 (h.six c hc)
theorem Szs.le_way (h : Szs list F r) {c : Cr} (hc : c ∈ list) (ok : cOk c = true) {i : Int} (hi : At F i) {fr : List Int} (hw : Way F c (fc F i) fr) : rd r i ≤ szB r fr 1 := by
 have := h.fix c hc ok _ hw i.toNat (by have := hi.2; have := hi.1; omega) (by show rd_T28 F ((i.toNat : Nat) : Int) = _; rw [Int.toNat_of_nonneg hi.1]);rwa [Int.toNat_of_nonneg hi.1] at this
theorem Szs.named (h : Szs list F r) {i t : Int} (ha : Ach list F i t) : ∃ j, At F j ∧ (fc F j).f0 ∈ Q.six ∧ (fc F j).f1 = (fc F i).f1 ∧ rd r j = 1 := by
 induction ha with
 | mk i c hc ok d hd h0 h1 hf s hs ih =>
  have hi : At F i := ⟨h0, h1⟩;have hw : Way F c (fc F i) d.f1 := by unfold Way fc; rw [hf]; exact hd
  have hk := h.kinds hc ok hi hw;rcases hk.2 with e | ⟨a, e, ha, ea⟩ | ⟨a, b, e, ha, hb, _, eb⟩
  ·have hl := h.le_way hc ok hi hw;rw [e] at hl;have : szB r [] 1 = 1 := by simp [szB, zt]
   have := (h.pos hi).1;exact ⟨i, hi, by rw [hk.1]; exact Q7 (h.six c hc), rfl, by omega⟩
  ·obtain ⟨j, h1, h2, h3, h4⟩ := ih a (by rw [e]; simp);exact ⟨j, h1, h2, h3.trans ea, h4⟩
  ·obtain ⟨j, h1, h2, h3, h4⟩ := ih b (by rw [e]; simp);exact ⟨j, h1, h2, h3.trans eb, h4⟩
def cnd (F : List Fc) (r : List Int) (q v : Int) (c : Rl) : Bool := decide (0 ≤ atF F c q ∧ 1 < rd r (atF F c q) ∧ rd r (atF F c q) ≤ v)
def zA (F : List Fc) (r : List Int) (q v : Int) : Nat := Q.six.countP (cnd F r q v)
theorem Qd (h : Szs list F r) {i : Int} (hi : At F i) (v : Int) : cnd F r (fc F i).f1 v (fc F i).f0 = decide (1 < rd r i ∧ rd r i ≤ v) := by
 have e : atF F (fc F i).f0 (fc F i).f1 = i := Qk h.nod hi rfl;have := hi.1;unfold cnd;rw [e];simp [this]
theorem qL {q v v' : Int} (hv : v ≤ v') : zA F r q v ≤ zA F r q v' := by
 refine vA _ fun c _ hc => ?_;have := of_decide_eq_true hc;exact decide_eq_true ⟨this.1, this.2.1, by omega⟩
theorem jn (h : Szs list F r) {i t v v' : Int} (ha : Ach list F i t) (hv : v < v') (h1 : 1 < rd r i) (h2 : v < rd r i) (h3 : rd r i ≤ v') : zA F r (fc F i).f1 v < zA F r (fc F i).f1 v' := by
 have hi := (zd ha).1;refine vw _ (fun c _ hc => ?_) ⟨(fc F i).f0, h.circle ha, ?_, ?_⟩
 ·have := of_decide_eq_true hc;exact decide_eq_true ⟨this.1, this.2.1, by omega⟩
 ·rw [Qd h hi]; exact decide_eq_true ⟨h1, h3⟩
 ·rw [Qd h hi]; exact decide_eq_false (by omega)
theorem Vr (h : Szs list F r) {q v : Int} : zA F r q v ≤ 5 := by
 by_cases hz : zA F r q v = 0
 ·omega
 ·obtain ⟨c, hc, hp⟩ := List.countP_pos_iff.1 (Nat.pos_of_ne_zero hz);have hd := of_decide_eq_true hp;rcases zf F c q with ⟨e, _⟩ | ⟨hi, e⟩
  ·omega
  ·have hn : (atF F c q).toNat < F.length := by omega
   obtain ⟨t, ht⟩ := h.ach hi;obtain ⟨j, j1, j2, j3, j4⟩ := h.named ht;have e3 : (fc F (atF F c q)).f1 = q := by simp only [fc]; rw [e]
   have := jG (p := cnd F r q v) Q.six ⟨(fc F j).f0, j2, by
    have := Qd h j1 v
    rw [j3, e3] at this
    rw [this]
    exact decide_eq_false (by omega)⟩
   have hl : Q.six.length = 6 := rfl;unfold zA;omega
def z9 (F : List Fc) (r : List Int) (T : List Int) (v : Int) : Nat := (T.map fun q => min 1 (zA F r q v)).sum
def zY (F : List Fc) (r : List Int) (T : List Int) (v : Int) : Nat := (T.map fun q => zA F r q v - 1).sum
def phi (F : List Fc) (r : List Int) (T : List Int) (v : Int) : Nat := (2 + 2 * z9 F r T v) * 2 ^ zY F r T v
theorem vz {T : List Int} {v v' : Int} (hv : v ≤ v') : phi F r T v ≤ phi F r T v' := by
 have a : z9 F r T v ≤ z9 F r T v' := zS T fun q _ => by have := qL (F := F) (r := r) (q := q) hv; omega
 have b : zY F r T v ≤ zY F r T v' := zS T fun q _ => by have := qL (F := F) (r := r) (q := q) hv; omega
 exact Nat.mul_le_mul (by omega) (Nat.pow_le_pow_right (by omega) b)
theorem Q2 {T : List Int} {v : Int} : 2 ≤ phi F r T v := by
 have : 1 ≤ 2 ^ zY F r T v := Nat.one_le_two_pow;have := Nat.mul_le_mul (show 2 ≤ 2 + 2 * z9 F r T v by omega) this;unfold phi;omega
theorem vY {T : List Int} {q v v' : Int} (hv : v ≤ v') (hq : q ∈ T) (h0 : zA F r q v = 0) (h1 : 0 < zA F r q v') : phi F r T v + 2 ≤ phi F r T v' := by
 have a : z9 F r T v < z9 F r T v' := Q4 T (fun q _ => by have := qL (F := F) (r := r) (q := q) hv; omega) ⟨q, hq, by omega⟩;have b : zY F r T v ≤ zY F r T v' := zS T fun q _ => by have := qL (F := F) (r := r) (q := q) hv; omega
 have c : 1 ≤ 2 ^ zY F r T v := Nat.one_le_two_pow;have d := Nat.mul_le_mul (show 2 + 2 * z9 F r T v + 2 ≤ 2 + 2 * z9 F r T v' by omega) (Nat.pow_le_pow_right (show 0 < 2 by omega) b);rw [Nat.add_mul (2 + 2 * z9 F r T v) 2] at d;unfold phi;omega
theorem jR {T : List Int} {q v v' : Int} (hv : v ≤ v') (hq : q ∈ T) (h0 : 0 < zA F r q v) (h1 : zA F r q v < zA F r q v') : 2 * phi F r T v ≤ phi F r T v' := by
 have a : z9 F r T v ≤ z9 F r T v' := zS T fun q _ => by have := qL (F := F) (r := r) (q := q) hv; omega
 have b : zY F r T v < zY F r T v' := Q4 T (fun q _ => by have := qL (F := F) (r := r) (q := q) hv; omega) ⟨q, hq, by omega⟩;have d := Nat.mul_le_mul (show 2 + 2 * z9 F r T v ≤ 2 + 2 * z9 F r T v' by omega) (Nat.pow_le_pow_right (show 0 < 2 by omega) (show zY F r T v + 1 ≤ zY F r T v' by omega));rw [Nat.pow_succ, ← Nat.mul_assoc] at d;unfold phi;omega
def qW (p : Int) : List Int := [0, 1, 2, p]
theorem V4 (h : Szs list F r) {p v : Int} : phi F r (qW p) v ≤ 655360 := by
 have d := fun q => Vr h (q := q) (v := v);have a : z9 F r (qW p) v ≤ 4 := by
  unfold z9 qW;simp only [List.map_cons, List.map_nil, List.sum_cons, List.sum_nil];omega
 have b : zY F r (qW p) v ≤ 16 := by
  have := d 0; have := d 1; have := d 2; have := d p;unfold zY qW;simp only [List.map_cons, List.map_nil, List.sum_cons, List.sum_nil];omega
 have := Nat.mul_le_mul (show 2 + 2 * z9 F r (qW p) v ≤ 10 by omega) (Nat.pow_le_pow_right (show 0 < 2 by omega) b);unfold phi;omega
theorem jO (h : Szs list F r) {p : Int} {c : Cr} (hc : c ∈ list) (ok : cOk c = true) {i : Int} (hi : At F i) (hq : (fc F i).f1 ∈ qW p) {fr : List Int} (hw : Way F c (fc F i) fr) (hlt : ∀ a ∈ fr, rd r a < rd r i)
  (ih : ∀ a ∈ fr, (fc F a).f1 ∈ qW p → rd r a + 1 ≤ (phi F r (qW p) (rd r a) : Int)) : 1 + (fr.map (rd r)).sum + 1 ≤ (phi F r (qW p) (rd r i) : Int) := by
 obtain ⟨t, ha⟩ := h.ach hi;have h2 := Q2 (F := F) (r := r) (T := qW p) (v := rd r i);rcases (h.kinds hc ok hi hw).2 with rfl | ⟨a, rfl, pa, ea⟩ | ⟨a, b, rfl, pa, pb, ea, eb⟩
 ·simp only [List.map_nil, List.sum_nil]; omega
 ·have l1 := hlt a (by simp);have i1 := ih a (by simp) (by rw [ea]; exact hq);have p1 := h.pos pa;have m1 := vz (F := F) (r := r) (T := qW p) (show rd r a ≤ rd r i - 1 by omega);have k1 := jn h ha (show rd r i - 1 < rd r i by omega) (by omega) (by omega) (Int.le_refl _);simp only [List.map_cons, List.map_nil, List.sum_cons, List.sum_nil];by_cases z : zA F r (fc F i).f1 (rd r i - 1) = 0
  ·have f := vY (F := F) (r := r) (show rd r i - 1 ≤ rd r i by omega) hq z (by omega);omega
  ·have f := jR (F := F) (r := r) (show rd r i - 1 ≤ rd r i by omega) hq (by omega) k1;have := Q2 (F := F) (r := r) (T := qW p) (v := rd r i - 1);omega
 ·have l1 := hlt a (by simp);have l2 := hlt b (by simp);have qa : (fc F a).f1 ∈ qW p := by
   rcases ea with ea | ea
   ·rw [ea]; exact hq
   ·obtain ⟨tb, hb⟩ := h.ach pb;have hs := h.circle hb;rw [ea];simp only [Q.six, List.mem_cons, List.not_mem_nil, or_false] at hs;rcases hs with e | e | e | e | e | e <;> rw [e] <;> simp [qW]
  have i1 := ih a (by simp) qa;have i2 := ih b (by simp) (by rw [eb]; exact hq);have p1 := h.pos pa;have p2 := h.pos pb;have m1 := vz (F := F) (r := r) (T := qW p) (show rd r a ≤ rd r i - 1 by omega);have m2 := vz (F := F) (r := r) (T := qW p) (show rd r b ≤ rd r i - 1 by omega);have k1 := jn h ha (show rd r i - 1 < rd r i by omega) (by omega) (by omega) (Int.le_refl _);simp only [List.map_cons, List.map_nil, List.sum_cons, List.sum_nil];by_cases z : zA F r (fc F i).f1 (rd r i - 1) = 0
  ·have f := vY (F := F) (r := r) (show rd r i - 1 ≤ rd r i by omega) hq z (by omega);have hb1 : rd r b = 1 := by
    by_cases g : rd r b = 1
    ·exact g
    ·exfalso;obtain ⟨tb, hb⟩ := h.ach pb;have := jn h hb (v := 1) (v' := rd r i - 1) (by omega) (by omega) (by omega) (by omega);rw [eb] at this;omega
   omega
  ·have f := jR (F := F) (r := r) (show rd r i - 1 ≤ rd r i by omega) hq (by omega) k1;omega
theorem Szs.best (h : Szs list F r) {i : Int} (hi : At F i) : ∃ c ∈ list, cOk c = true ∧ ∃ fr, Way F c (fc F i) fr ∧ (∀ a ∈ fr, At F a ∧ rd r a ≤ 1000000) ∧ rd r i = zt (1 + (fr.map (rd r)).sum) := by
 have ha := Zd h.good h.fix h.reach i.toNat (by have := hi.1; have := hi.2; omega);rw [Int.toNat_of_nonneg hi.1] at ha;obtain ⟨_, c, hc, ok, fr, hw, s, es, hs⟩ := zd ha;have hle : ∀ a ∈ fr, rd r a ≤ s a := fun a m => vn h.good h.fix (hs a m);have hin : ∀ a ∈ fr, At F a ∧ rd r a ≤ 1000000 := fun a m => ⟨(zd (hs a m)).1, Int.le_trans (hle a m) (vt (hs a m)).2⟩;have h1 := h.le_way hc ok hi hw;rw [zH fr 1 fun a m => (hin a m).2] at h1;have h2 := jg (show 1 + (fr.map (rd r)).sum ≤ 1 + (fr.map s).sum by have := jp fr hle; omega);exact ⟨c, hc, ok, fr, hw, hin, by omega⟩
theorem Qf {s : Int → Int} : ∀ (l : List Int), (∀ a ∈ l, 1 ≤ s a) → ∀ a ∈ l, s a ≤ (l.map s).sum := by
 intro l;induction l with
 | nil => intro _ a h; simp at h
 | cons x l ih =>
  intro h a ha;simp only [List.map_cons, List.sum_cons];have hx := h x (List.mem_cons_self ..);have hl := Z5 l (s := s) fun y hy => by have := h y (List.mem_cons_of_mem _ hy); omega
  rcases List.mem_cons.1 ha with rfl | ha
  ·omega
  ·have := ih (fun y hy => h y (List.mem_cons_of_mem _ hy)) a ha; omega
theorem Qe {x : Int} (h : zt x < 1000000) : zt x = x := by unfold zt at h ⊢; split <;> simp_all <;> omega
theorem Szs.phi_all (h : Szs list F r) {p : Int} : ∀ (n : Nat) (i : Int), At F i → (fc F i).f1 ∈ qW p → rd r i ≤ (n : Int) → rd r i < 1000000 → rd r i + 1 ≤ (phi F r (qW p) (rd r i) : Int) := by
 intro n;induction n with
 | zero => intro i hi _ hn _; have := (h.pos hi).1; omega
 | succ n ih =>
  intro i hi hq hn hlt;obtain ⟨c, hc, ok, fr, hw, hin, e⟩ := h.best hi;have e2 : rd r i = 1 + (fr.map (rd r)).sum := by rw [e] at hlt ⊢; exact Qe hlt
  have hpos : ∀ a ∈ fr, 1 ≤ rd r a := fun a m => (h.pos (hin a m).1).1;have hl : ∀ a ∈ fr, rd r a < rd r i := fun a m => by have := Qf fr hpos a m; omega
  have := jO h hc ok hi hq hw hl fun a m qa => ih a (hin a m).1 qa (by have := hl a m; omega) (by have := hl a m; omega);omega
theorem Szs.small (h : Szs list F r) {i : Int} (hi : At F i) : rd r i < 1000000 := by
 obtain ⟨t, ha⟩ := h.ach hi;induction ha with
 | mk i c hc ok d hd h0 h1 hf s hs ih =>
  have hw : Way F c (fc F i) d.f1 := by unfold Way fc; rw [hf]; exact hd
  have hs2 : ∀ a ∈ d.f1, At F a := fun a m => (zd (hs a m)).1;have hsm : ∀ a ∈ d.f1, rd r a < 1000000 := fun a m => ih a m (hs2 a m);by_cases g : rd r i < 1000000
  ·exact g
  ·exfalso;have hq : (fc F i).f1 ∈ qW (fc F i).f1 := by simp [qW]
   have st := jO h hc ok hi hq hw (fun a m => by have := hsm a m; omega) fun a m qa => h.phi_all (rd r a).toNat a (hs2 a m) qa (by omega) (hsm a m);have l1 := h.le_way hc ok hi hw;rw [zH d.f1 1 fun a m => by have := hsm a m; omega] at l1;have l2 := V4 h (p := (fc F i).f1) (v := rd r i);unfold zt at l1;split at l1 <;> omega
theorem Szs.plain (h : Szs list F r) {i : Int} (hi : At F i) : ∃ c ∈ list, cOk c = true ∧ ∃ fr, Way F c (fc F i) fr ∧ (∀ a ∈ fr, At F a) ∧ szB r fr 1 = rd r i ∧ rd r i = 1 + (fr.map (rd r)).sum := by
 obtain ⟨c, hc, ok, fr, hw, hin, e⟩ := h.best hi;have hl := h.small hi;refine ⟨c, hc, ok, fr, hw, fun a m => (hin a m).1, ?_, by rw [e] at hl ⊢; exact Qe hl⟩;rw [zH fr 1 fun a m => (hin a m).2, e]
end
abbrev T14 := Int × Int × Int × Int × Int × Int × Int × Int × Int × Int × Int × Int × Int × List Int
def Vv (c : Cr) (f : Fc) (fr : List Int) : T14 := (c.f0, c.f1.f0, c.f1.f1, c.f2, c.f3.f0, c.f3.f1, c.f4.f0, c.f4.f1, c.f5, c.f6, f.f0.f0, f.f0.f1, f.f1, fr)
def jt (F : List Fc) (r : List Int) (i : Int) (d : Dv) : Prop := d.f0 = fc F i ∧ szB r d.f1 1 = rd r i
def jV (list : List Cr) (F : List Fc) (r : List Int) (i : Int) (t : T14) : Prop := ∃ c ∈ list, cOk c = true ∧ ∃ fr, Way F c (fc F i) fr ∧ szB r fr 1 = rd r i ∧ t = Vv c (fc F i) fr
theorem fcB (x y : Fc) : ((x.f0.f0 == y.f0.f0 && x.f0.f1 == y.f0.f1) && x.f1 == y.f1) = decide (x = y) := by
 obtain ⟨⟨a, b⟩, c⟩ := x;obtain ⟨⟨a', b'⟩, c'⟩ := y;by_cases h : (⟨⟨a, b⟩, c⟩ : Fc) = ⟨⟨a', b'⟩, c'⟩
 ·rw [decide_eq_true h]; cases h; simp
 ·rw [decide_eq_false h, Bool.eq_false_iff];intro g;simp only [Bool.and_eq_true, beq_iff_eq] at g;exact h (by rw [g.1.1, g.1.2, g.2])
theorem ZA {list : List Cr} {F : List Fc} {r : List Int} (h : Szs list F r) (hF : F.length ≤ 144) {i : Int} (hi : At F i) (c : Cr) (hc : c ∈ list) (ok : cOk c = true) (x14 x15 : Int) (D : List Dv) (hD : D = qf F c) (hDl : D.length ≤ 2097152)
  (next : (∀ d ∈ D, ¬ jt F r i d) → ∃ t, Ev (fun k => Fm.l0 k F r i list x14 (wrap64 (x15 + 1))) t ∧ jV list F r i t) :
  ∀ (n j : Nat), D.length - j = n → j ≤ D.length → (∀ d ∈ D.take j, ¬ jt F r i d) →
  ∃ t, Ev (fun k => Fm.l1 k F r i list x14 x15 D D.length j c.f0 c.f1.f0 c.f1.f1 c.f2 c.f3.f0 c.f3.f1 c.f4.f0 c.f4.f1 c.f5 c.f6) t ∧ jV list F r i t := by
 intro n;induction n with
 | zero =>
  intro j hn hj hno;obtain rfl : j = D.length := by omega
  refine Ev.exsucc ?_;simp only [Fm.l1, Int.lt_irrefl, ↓reduceIte];exact next (by rwa [List.take_length] at hno)
 | succ n ih =>
  intro j hn hj hno;have hjl : j < D.length := by omega
  obtain ⟨d, hd⟩ : ∃ d, D[j] = d := ⟨_, rfl⟩;have hdm : d ∈ D := hd ▸ List.getElem_mem hjl;have hw : Way F c d.f0 d.f1 := by unfold Way; rw [← hD]; exact hdm
  have htk : D.take (j + 1) = D.take j ++ [d] := by rw [List.take_succ_eq_append_getElem hjl, hd]
  have hup := uq_ j;obtain ⟨hfl, hfa⟩ := jl h.right h.nod ok hw;have hg := h.good;have hrg : ∀ x ∈ d.f1, 0 ≤ rd r x ∧ rd r x ≤ 1000001 := fun x hx => by have := qD hg (hfa x hx).1 (hfa x hx).2; omega
  have on : ¬ jt F r i d → ∃ t, Ev (fun k => Fm.l1 k F r i list x14 x15 D D.length ((j + 1 : Nat) : Int) c.f0 c.f1.f0 c.f1.f1 c.f2 c.f3.f0 c.f3.f1 c.f4.f0 c.f4.f1 c.f5 c.f6) t ∧ jV list F r i t := fun hm => by
   refine ih (j + 1) (by omega) (by omega) fun x hx => ?_;rw [htk, List.mem_append, List.mem_singleton] at hx;rcases hx with hx | rfl
   ·exact hno x hx
   ·exact hm
  refine Ev.exsucc ?_;simp only [Fm.l1, qc, qe, hjl, ↓reduceIte, rd_T81, qv _ hjl, qm _ hjl, hd, hup, hi.1, hi.2, fcB];have hir : i < (r.length : Int) := by rw [hg.1]; exact hi.2
  change ∃ t, Ev (fun k => if decide (d.f0 = fc F i) = true then _ else _) t ∧ _;by_cases e : d.f0 = fc F i
  ·simp only [decide_eq_true e, ↓reduceIte, hir];refine Ev.exbind (vV r _ _ _ d.f1 hfl (fun x hx => by rw [hg.1]; exact hfa x hx) hrg) ?_;by_cases e2 : szB r d.f1 1 = rd r i
   ·simp only [e2, ↓reduceIte];exact ⟨_, Ev.now _, c, hc, ok, d.f1, e ▸ hw, e2, by rw [← e]; rfl⟩
   ·simp only [e2, ↓reduceIte];exact on fun m => e2 m.2
  ·simp only [decide_eq_false e, Bool.false_eq_true, ↓reduceIte];exact on fun m => e m.1
theorem Zq {list : List Cr} (hl : list.length ≤ 1048576) {F : List Fc} {r : List Int} (h : Szs list F r) (hF : F.length ≤ 144) {i : Int} (hi : At F i) :
  ∀ (n j : Nat), list.length - j = n → j ≤ list.length → (∃ c ∈ list.drop j, cOk c = true ∧ ∃ d ∈ qf F c, jt F r i d) →
  ∃ t, Ev (fun k => Fm.l0 k F r i list list.length j) t ∧ jV list F r i t := by
 intro n;induction n with
 | zero =>
  intro j hn hj he;obtain rfl : j = list.length := by omega
  obtain ⟨c, hc, _⟩ := he;simp at hc
 | succ n ih =>
  intro j hn hj he;have hjl : j < list.length := by omega
  obtain ⟨c, hc⟩ : ∃ c, list[j] = c := ⟨_, rfl⟩;have hcl : c ∈ list := hc ▸ List.getElem_mem hjl;have hdr : list.drop j = c :: list.drop (j + 1) := by rw [List.drop_eq_getElem_cons hjl, hc]
  have hup := uq_ j;have on : ¬ (cOk c = true ∧ ∃ d ∈ qf F c, jt F r i d) → ∃ t, Ev (fun k => Fm.l0 k F r i list list.length ((j + 1 : Nat) : Int)) t ∧ jV list F r i t := fun hm => by
   refine ih (j + 1) (by omega) (by omega) ?_;obtain ⟨c', hc', h2⟩ := he;rw [hdr] at hc';rcases List.mem_cons.1 hc' with rfl | hc'
   ·exact absurd h2 hm
   ·exact ⟨c', hc', h2⟩
  refine Ev.exsucc ?_;simp only [Fm.l0, qc, qe, hjl, ↓reduceIte, rd_T35, qv _ hjl, qm _ hjl, hc, hup];refine Ev.exbind (qU _ _ _ _ _ _ _ _ _ _) ?_;change ∃ t, Ev (fun k => if cOk c = true then _ else _) t ∧ _;cases ok : cOk c
  ·simp only [Bool.false_eq_true, ↓reduceIte];exact on fun m => by rw [ok] at m; simp at m
  ·simp only [↓reduceIte];refine Ev.exbind (vC F (by omega) c) ?_;have hDl : (qf F c).length ≤ 2097152 := Nat.le_trans (zm F c (by omega)) (by omega);refine ZA h hF hi c hcl ok list.length j (qf F c) rfl hDl (fun hno => ?_) _ 0 rfl (Nat.zero_le _) (fun d hd => by simp at hd);rw [hup];exact on fun m => by obtain ⟨_, d, hd, hm⟩ := m; exact hno d hd hm
theorem Qs {list : List Cr} (hl : list.length ≤ 1048576) {F : List Fc} {r : List Int} (h : Szs list F r) (hF : F.length ≤ 144) {i : Int} (hi : At F i) :
  ∃ c ∈ list, cOk c = true ∧ ∃ fr, Way F c (fc F i) fr ∧ (∀ a ∈ fr, At F a) ∧ fr.length ≤ 2 ∧ rd r i = 1 + (fr.map (rd r)).sum ∧ Ev (fun k => Fm.f k list F r i) (Vv c (fc F i) fr) := by
 obtain ⟨c0, hc0, ok0, fr0, hw0, _, e0, _⟩ := h.plain hi;obtain ⟨t, ht, c, hc, ok, fr, hw, e, rfl⟩ := Zq hl h hF hi list.length 0 rfl (Nat.zero_le _) ⟨c0, by simpa using hc0, ok0, ⟨fc F i, fr0⟩, hw0, rfl, e0⟩;have hs := h.small hi;obtain ⟨w1, w2⟩ := jl h.right h.nod ok hw;refine ⟨c, hc, ok, fr, hw, w2, w1, ?_, by unfold Fm.f; exact ht⟩;rcases Qw (s := r) fr with ⟨g, _⟩ | ⟨_, g⟩
 ·omega
 ·rw [g] at e;rw [← e] at hs ⊢;exact Qe hs
end Q
end Go.Proofs.Ytljhfomkakhflaa

namespace Go.Proofs.Ytljhfomkakhflaa
open Go.RowKit Go.Proofs.YtljhfomkakhflaaW.PrintWords Go.Proofs.YtljhfomkakhflaaW.PrintLast Go.Proofs.YtljhfomkakhflaaW.PrintMore Go.Proofs.Ytljhfomkakhflaa.PA
set_option linter.unusedVariables false
set_option linter.unusedSimpArgs false
namespace Q
abbrev St := S58
def rdS (l : List St) (i : Int) : St := rd_T58 l i
theorem zh {l : List St} {i : Nat} (h : i < l.length) : rdS l (i : Int) = l[i] := by simp only [rdS, rd_T58, qv _ h]
theorem qT {l : List St} (t : List St) {j : Int} (h0 : 0 ≤ j) (h : j < (l.length : Int)) : rdS (l ++ t) j = rdS l j := by
 obtain ⟨n, rfl⟩ := Int.eq_ofNat_of_zero_le h0;have hn : n < l.length := by omega
 rw [zh hn, zh (show n < (l ++ t).length by rw [List.length_append]; omega), List.getElem_append_left hn]
def atG (f : Fc) : List St → Int → Int
 | [], _ => -1
 | x :: xs, i => if x.f1 = f then i else atG f xs (i + 1)
def atS (l : List St) (f : Fc) : Int := atG f l 0
theorem vP (l : List St) (a b c : Int) (h : l.length ≤ 1048576) : Ev (fun k => Gc.f k l a b c) (atS l ⟨⟨a, b⟩, c⟩) := by
 unfold Gc.f atS;have key := Ev.up0 l.length (fun i k => Gc.l0 k l i a b c) (fun i => atG ⟨⟨a, b⟩, c⟩ (l.drop i) i) ?_ ?_ 0 (Nat.zero_le _)
 ·exact key
 ·intro i hi hn;refine Ev.succ ?_;have hiff := zu a b c l[i].f1;unfold qz at hiff;simp only [Gc.l0, qc, qe, hi, ↓reduceIte, rd_T58, qv _ hi, qm _ hi, uq_ i];rw [List.drop_eq_getElem_cons hi, atG];by_cases hf : l[i].f1 = ⟨⟨a, b⟩, c⟩
  ·rw [if_pos hf];simp only [hiff.2 hf, ↓reduceIte];exact Ev.now _
  ·rw [if_neg hf];simp only [mt hiff.1 hf, ↓reduceIte];exact hn
 ·refine Ev.succ ?_;simp only [Gc.l0, qc, Nat.lt_irrefl, ↓reduceIte, List.drop_length, atG];exact Ev.now _
theorem jT (f : Fc) : ∀ (l : List St) (i : Nat), (atG f l i = -1 ∧ ∀ x ∈ l, x.f1 ≠ f) ∨ ∃ j : Nat, ∃ h : j < l.length, atG f l i = ((i + j : Nat) : Int) ∧ l[j].f1 = f := by
 intro l;induction l with
 | nil => intro i; exact .inl ⟨rfl, by simp⟩
 | cons x xs ih =>
  intro i;unfold atG;by_cases hx : x.f1 = f
  ·rw [if_pos hx];exact .inr ⟨0, by simp, by simp, by simpa using hx⟩
  ·rw [if_neg hx];rcases ih (i + 1) with ⟨h1, h2⟩ | ⟨j, hj, h1, h2⟩
   ·refine .inl ⟨by exact_mod_cast h1, ?_⟩;intro y hy;rcases List.mem_cons.1 hy with rfl | hy
    ·exact hx
    ·exact h2 y hy
   ·refine .inr ⟨j + 1, by simpa using hj, ?_, by simpa using h2⟩;have : ((i + (j + 1) : Nat) : Int) = ((i + 1 + j : Nat) : Int) := by omega
    rw [this];exact_mod_cast h1
theorem jA {l : List St} {f : Fc} (h : 0 ≤ atS l f) : ∃ j : Nat, j < l.length ∧ atS l f = (j : Int) ∧ (rdS l j).f1 = f := by
 rcases jT f l 0 with ⟨h1, _⟩ | ⟨j, hj, h1, h2⟩
 ·have h3 : atS l f = -1 := h1;omega
 ·refine ⟨j, hj, ?_, by rw [zh hj]; exact h2⟩;have h3 : atS l f = ((0 + j : Nat) : Int) := h1;rw [h3, Nat.zero_add]
theorem vy {l : List St} {f : Fc} (h : f ∈ l.map (·.f1)) : 0 ≤ atS l f := by
 rcases jT f l 0 with ⟨_, h2⟩ | ⟨j, hj, h1, h2⟩
 ·obtain ⟨x, hx, rfl⟩ := List.mem_map.1 h;exact absurd rfl (h2 x hx)
 ·have h3 : atS l f = ((0 + j : Nat) : Int) := h1;omega
def zM (l : List St) (c : Cr) (w : Int) : List St → Int → List Int
 | [], _ => []
 | x :: xs, i => if x.f1.f0 = c.f3 then (if atS l ⟨⟨x.f1.f1, c.f4.f1⟩, w⟩ ≥ 0 then [i, atS l ⟨⟨x.f1.f1, c.f4.f1⟩, w⟩] else zM l c w xs (i + 1)) else zM l c w xs (i + 1)
def qM (l : List St) (c : Cr) (w : Int) : List Int :=
 if c.f0 = 2 then [atS l ⟨c.f3, w⟩] else if c.f0 = 4 then [atS l ⟨c.f3, w⟩, atS l ⟨c.f4, w⟩] else if c.f0 = 3 then zM l c w l 0 else []
theorem ZW (l : List St) (c : Cr) (w : Int) (h : l.length ≤ 1048576) : Ev (fun k => Fq.f k l c.f0 c.f1.f0 c.f1.f1 c.f2 c.f3.f0 c.f3.f1 c.f4.f0 c.f4.f1 c.f5 c.f6 w) (qM l c w) := by
 obtain ⟨p, ⟨o1, o2⟩, q, ⟨a, b⟩, ⟨d, e⟩, u, n⟩ := c;unfold Fq.f qM;simp only;by_cases h2 : p = 2
 ·simp only [h2, ↓reduceIte];refine Ev.bind (vP l _ _ _ h) ?_;exact Ev.now _
 by_cases h4 : p = 4
 ·simp only [h4, ↓reduceIte, show ¬ (4 : Int) = 2 by omega];refine Ev.bind (vP l _ _ _ h) ?_;refine Ev.bind (vP l _ _ _ h) ?_;exact Ev.now _
 by_cases h3 : p = 3
 ·simp only [h3, ↓reduceIte, show ¬ (3 : Int) = 2 by omega, show ¬ (3 : Int) = 4 by omega];have key := Ev.up0 l.length (fun i k => Fq.l0 k l w i 3 o1 o2 q a b d e u n) (fun i => zM l ⟨3, ⟨o1, o2⟩, q, ⟨a, b⟩, ⟨d, e⟩, u, n⟩ w (l.drop i) i) ?_ ?_ 0 (Nat.zero_le _)
  ·exact key
  ·intro i hi hn;refine Ev.succ ?_;simp only [Fq.l0, qc, qe, hi, ↓reduceIte, rd_T58, qv _ hi, qm _ hi, uq_ i, Zl];rw [List.drop_eq_getElem_cons hi, zM];by_cases hf : l[i].f1.f0 = ⟨a, b⟩
   ·rw [if_pos hf];simp only [hf, decide_true, Bool.not_true, Bool.false_eq_true, ↓reduceIte];refine Ev.bind (vP l _ _ _ h) ?_;by_cases hg : atS l ⟨⟨l[i].f1.f1, e⟩, w⟩ ≥ 0
    ·rw [if_pos hg];simp only [hg, ↓reduceIte];exact Ev.now _
    ·rw [if_neg hg];simp only [hg, ↓reduceIte];exact hn
   ·rw [if_neg hf];simp only [hf, decide_false, Bool.not_false, ↓reduceIte];exact hn
  ·refine Ev.succ ?_;simp only [Fq.l0, qc, Nat.lt_irrefl, ↓reduceIte, List.drop_length, zM];exact Ev.now _
 ·simp only [h2, h3, h4, ↓reduceIte];exact Ev.now _
def zO (c : Cr) (f : Fc) (ps : List Fc) : Prop :=
 f.f0 = c.f1 ∧ ((c.f0 = 1 ∧ f.f1 = c.f2 ∧ ps = []) ∨ (c.f0 = 2 ∧ ps = [⟨c.f3, f.f1⟩]) ∨ (c.f0 = 3 ∧ ∃ x, ps = [⟨c.f3, x⟩, ⟨⟨x, c.f4.f1⟩, f.f1⟩]) ∨ (c.f0 = 4 ∧ ps = [⟨c.f3, f.f1⟩, ⟨c.f4, f.f1⟩]))
theorem zO.der {list : List Cr} {c : Cr} {f : Fc} {ps : List Fc} (h : zO c f ps) (hc : c ∈ list) (ok : cOk c = true) (hp : ∀ p ∈ ps, Der list p) : Der list f := by
 obtain ⟨h0, h⟩ := h;rw [zj h0];rcases h with ⟨k, e, rfl⟩ | ⟨k, rfl⟩ | ⟨k, x, rfl⟩ | ⟨k, rfl⟩
 ·rw [e]; exact .mem c hc ok k
 ·exact .frm c hc ok k _ (hp _ (by simp))
 ·exact .lnk c hc ok k x _ (hp _ (by simp)) (hp _ (by simp))
 ·exact .bth c hc ok k _ (hp _ (by simp)) (hp _ (by simp))
theorem QJ (l : List St) (c : Cr) (w : Int) : ∀ (d i : Nat), l.length - i = d → (∃ j : Nat, ∃ h : j < l.length, i ≤ j ∧ l[j].f1.f0 = c.f3 ∧ 0 ≤ atS l ⟨⟨l[j].f1.f1, c.f4.f1⟩, w⟩) →
  ∃ j : Nat, ∃ h : j < l.length, l[j].f1.f0 = c.f3 ∧ 0 ≤ atS l ⟨⟨l[j].f1.f1, c.f4.f1⟩, w⟩ ∧ zM l c w (l.drop i) i = [(j : Int), atS l ⟨⟨l[j].f1.f1, c.f4.f1⟩, w⟩] := by
 intro d;induction d with
 | zero => rintro i hd ⟨j, hj, hij, _⟩; omega
 | succ d ih =>
  rintro i hd ⟨j, hj, hij, e1, e2⟩;have hi : i < l.length := by omega
  rw [List.drop_eq_getElem_cons hi, zM];by_cases hf : l[i].f1.f0 = c.f3
  ·rw [if_pos hf];by_cases hg : atS l ⟨⟨l[i].f1.f1, c.f4.f1⟩, w⟩ ≥ 0
   ·rw [if_pos hg];exact ⟨i, hi, hf, hg, rfl⟩
   ·rw [if_neg hg];have hne : i ≠ j := by rintro rfl; exact hg e2
    exact ih (i + 1) (by omega) ⟨j, hj, by omega, e1, e2⟩
  ·rw [if_neg hf];have hne : i ≠ j := by rintro rfl; exact hf e1
   exact ih (i + 1) (by omega) ⟨j, hj, by omega, e1, e2⟩
theorem Zc {l : List St} {c : Cr} {f : Fc} (hf : f ∈ zv (l.map (·.f1)) c) (ok : cOk c = true) : zO c f ((qM l c f.f1).map fun j => (rdS l j).f1) ∧ ∀ j ∈ qM l c f.f1, 0 ≤ j ∧ j < (l.length : Int) := by
 unfold zv at hf;rcases qO ok with hk | hk | hk | hk
 ·simp only [hk, ↓reduceIte, List.mem_singleton] at hf;subst hf;simp only [qM, hk, show ¬ (1 : Int) = 2 by omega, show ¬ (1 : Int) = 4 by omega, show ¬ (1 : Int) = 3 by omega, ↓reduceIte];exact ⟨⟨rfl, .inl ⟨hk, rfl, rfl⟩⟩, by simp⟩
 ·simp only [hk, show ¬ ((2 : Int) = 1) by omega, ↓reduceIte, List.mem_map, List.mem_filter, decide_eq_true_eq] at hf;obtain ⟨x, ⟨⟨s, hs, rfl⟩, e⟩, rfl⟩ := hf;have hm : (⟨c.f3, s.f1.f1⟩ : Fc) ∈ l.map (·.f1) := List.mem_map.2 ⟨s, hs, zj e⟩;obtain ⟨j, hj, e1, e2⟩ := jA (vy hm);simp only [qM, hk, ↓reduceIte, List.map_cons, List.map_nil, List.mem_singleton, forall_eq];rw [e1, e2];exact ⟨⟨rfl, .inr (.inl ⟨hk, rfl⟩)⟩, by omega, by omega⟩
 ·simp only [hk, show ¬ ((3 : Int) = 1) by omega, show ¬ ((3 : Int) = 2) by omega, ↓reduceIte, List.mem_flatMap, List.mem_map, List.mem_filter, decide_eq_true_eq] at hf;obtain ⟨x, ⟨⟨s, hs, rfl⟩, e⟩, z, ⟨⟨s2, hs2, rfl⟩, e2⟩, rfl⟩ := hf;obtain ⟨i, hi, rfl⟩ := List.mem_iff_getElem.1 hs;have hm : (⟨⟨l[i].f1.f1, c.f4.f1⟩, s2.f1.f1⟩ : Fc) ∈ l.map (·.f1) := List.mem_map.2 ⟨s2, hs2, zj e2⟩;obtain ⟨j, hj, e3, e4, e5⟩ := QJ l c s2.f1.f1 l.length 0 rfl ⟨i, hi, Nat.zero_le _, e, vy hm⟩;obtain ⟨q, hq, e6, e7⟩ := jA e4;simp only [qM, hk, show ¬ (3 : Int) = 2 by omega, show ¬ (3 : Int) = 4 by omega, ↓reduceIte];have e8 : zM l c s2.f1.f1 l 0 = [(j : Int), (q : Int)] := by
   have := e5;rw [List.drop_zero, e6] at this;exact this
  rw [e8];refine ⟨⟨rfl, .inr (.inr (.inl ⟨hk, l[j].f1.f1, ?_⟩))⟩, ?_⟩
  ·simp only [List.map_cons, List.map_nil];rw [e7, zh hj, ← zj e3]
  ·intro y hy;rcases List.mem_cons.1 hy with rfl | hy
   ·omega
   ·rw [List.mem_singleton] at hy;omega
 ·simp only [hk, show ¬ ((4 : Int) = 1) by omega, show ¬ ((4 : Int) = 2) by omega, show ¬ ((4 : Int) = 3) by omega, ↓reduceIte, List.mem_map, List.mem_filter, decide_eq_true_eq] at hf;obtain ⟨x, ⟨⟨⟨s, hs, rfl⟩, e⟩, h2⟩, rfl⟩ := hf;have hm : (⟨c.f3, s.f1.f1⟩ : Fc) ∈ l.map (·.f1) := List.mem_map.2 ⟨s, hs, zj e⟩;have hm2 : (⟨c.f4, s.f1.f1⟩ : Fc) ∈ l.map (·.f1) := List.mem_map.2 h2;obtain ⟨j, hj, e1, e2⟩ := jA (vy hm);obtain ⟨q, hq, e3, e4⟩ := jA (vy hm2);simp only [qM, hk, show ¬ (4 : Int) = 2 by omega, ↓reduceIte, List.map_cons, List.map_nil];rw [e1, e2, e3, e4];refine ⟨⟨rfl, .inr (.inr (.inr ⟨hk, rfl⟩))⟩, ?_⟩;intro y hy;rcases List.mem_cons.1 hy with rfl | hy
  ·omega
  ·rw [List.mem_singleton] at hy;omega
def zU (list : List Cr) (all : List St) (i : Nat) (s : St) : Prop := s.f0 ∈ list ∧ cOk s.f0 = true ∧ (∀ j ∈ s.f2, 0 ≤ j ∧ j < (i : Int)) ∧ zO s.f0 s.f1 (s.f2.map fun j => (rdS all j).f1)
def qh (list : List Cr) (all : List St) : Prop := ∀ (i : Nat) (h : i < all.length), zU list all i all[i]
theorem zU.more {list : List Cr} {all : List St} {i : Nat} {s : St} (h : zU list all i s) (hi : i ≤ all.length) (t : List St) : zU list (all ++ t) i s := by
 obtain ⟨h1, h2, h3, h4⟩ := h;refine ⟨h1, h2, h3, ?_⟩;have : (s.f2.map fun j => (rdS (all ++ t) j).f1) = s.f2.map fun j => (rdS all j).f1 := by
  apply List.map_congr_left;intro j hj;have := h3 j hj;rw [qT t (by omega) (by omega)]
 rw [this];exact h4
theorem qh.snoc {list : List Cr} {all : List St} (h : qh list all) {s : St} (hs : zU list all all.length s) : qh list (all ++ [s]) := by
 intro i hi;rw [List.length_append, List.length_singleton] at hi;by_cases hlt : i < all.length
 ·rw [List.getElem_append_left hlt];exact (h i hlt).more (by omega) _
 ·have : i = all.length := by omega
  subst this;rw [List.getElem_append_right (Nat.le_refl _)];simpa using hs.more (Nat.le_refl _) [s]
theorem qh.nil (list : List Cr) : qh list [] := fun i h => absurd h (by simp)
theorem ZG {l : List Fc} {c : Cr} {t : List Fc} (he : qi l c = l ++ t) (hn : (qi l c).Nodup) {f : Fc} (hf : f ∈ t) : f ∈ zv l c ∧ cOk c = true := by
 rw [he] at hn;have hnot : f ∉ l := fun h => (List.nodup_append.1 hn).2.2 f h f hf rfl;have hm : f ∈ qi l c := by rw [he]; exact List.mem_append_right _ hf
 unfold qi at hm;by_cases ok : cOk c = true
 ·rw [if_pos ok, zw] at hm;rcases hm with hm | hm
  ·exact absurd hm hnot
  ·exact ⟨hm, ok⟩
 ·rw [if_neg ok] at hm;exact absurd hm hnot
structure Ord (F : List Fc) (r o : List Int) : Prop where
 len : o.length = F.length
 at_ : ∀ t, At F t → At F (rd o t)
 all : ∀ a, At F a → ∃ t, At F t ∧ rd o t = a
 one : ∀ s t, At F s → At F t → rd o s = rd o t → s = t
 up : ∀ s t, 0 ≤ s → s < t → t < (F.length : Int) → rd r (rd o s) ≤ rd r (rd o t)
def rg (n : Nat) : List Int := (List.range n).map fun (i : Nat) => (i : Int)
theorem zo (n : Nat) : (rg n).length = n := by simp [rg]
theorem jJ {n t : Nat} (h : t < n) : gt (rg n) t = (t : Int) := by rw [vQ (by simpa [rg] using h)]; simp [rg]
theorem ZU (n : Nat) : rg n ++ [(n : Int)] = rg (n + 1) := by simp [rg, List.range_succ]
theorem Zk (n : Nat) : (rg n).Nodup := by
 rw [jj];intro i j hi hj e;rw [zo] at hi hj;rw [jJ hi, jJ hj] at e;omega
theorem V0 {list : List Cr} {F : List Fc} {r : List Int} (h : Szs list F r) (hF : F.length ≤ 144) : ∃ o, Ev (fun k => F3.f k (rg F.length) (fnCmp r)) o ∧ Ord F r o := by
 have hc : Cm (fnCmp r) (rd r) (rg F.length) := by
  refine ⟨by rw [zo]; omega, fun s t hs ht => ?_⟩;rw [zo] at hs ht;rw [jJ hs, jJ ht];have p1 := h.pos (i := (s : Int)) ⟨by omega, by omega⟩;have p2 := h.pos (i := (t : Int)) ⟨by omega, by omega⟩;have hl := h.good.1;unfold fnCmp;rw [if_pos (by omega), if_pos (by omega), if_pos (by omega), if_pos (by omega), w64 (by omega) (by omega)]
 obtain ⟨o, e, hs, hu⟩ := QY (rd r) (fnCmp r) (rg F.length) hc;have hlen : o.length = F.length := by rw [hs.len, zo]
 rw [zo] at hs hu;have hnod := hs.nod (Zk _);have hat : ∀ t : Nat, t < F.length → ∃ s : Nat, s < F.length ∧ gt o t = (s : Int) := by
  intro t ht;obtain ⟨s, _, s2, e⟩ := hs.inn t (Nat.zero_le _) ht;exact ⟨s, s2, e.trans (jJ s2)⟩
 refine ⟨o, e, hlen, fun t ht => ?_, fun a ha => ?_, fun s t h1 h2 e => ?_, fun s t h1 h2 h3 => ?_⟩
 ·obtain ⟨n, rfl⟩ := Int.eq_ofNat_of_zero_le ht.1;obtain ⟨s, s1, s2⟩ := hat n (by have := ht.2; omega);show At F (gt o n);rw [s2];exact ⟨by omega, by omega⟩
 ·obtain ⟨n, rfl⟩ := Int.eq_ofNat_of_zero_le ha.1;have hn : n < F.length := by have := ha.2; omega
  by_cases hm : (n : Int) ∈ o
  ·obtain ⟨t, ht, e⟩ := List.mem_iff_getElem.1 hm;exact ⟨(t : Int), ⟨by omega, by omega⟩, by rw [rdI ht]; exact e⟩
  ·exfalso;have := jB ((n : Int) :: o) (rg F.length) (List.nodup_cons.2 ⟨hm, hnod⟩) fun x hx => by
    rcases List.mem_cons.1 hx with rfl | hx
    ·simp only [rg, List.mem_map, List.mem_range]; exact ⟨n, hn, rfl⟩
    ·obtain ⟨t, ht, e⟩ := List.mem_iff_getElem.1 hx;obtain ⟨s, s1, s2⟩ := hat t (by omega);rw [vQ ht, e] at s2;simp only [rg, List.mem_map, List.mem_range]; exact ⟨s, s1, s2.symm⟩
   rw [zo, List.length_cons] at this;omega
 ·obtain ⟨n, rfl⟩ := Int.eq_ofNat_of_zero_le h1.1;obtain ⟨m, rfl⟩ := Int.eq_ofNat_of_zero_le h2.1;have := (jj o).1 hnod n m (by have := h1.2; omega) (by have := h2.2; omega) e;omega
 ·obtain ⟨n, rfl⟩ := Int.eq_ofNat_of_zero_le h1;obtain ⟨m, rfl⟩ := Int.eq_ofNat_of_zero_le (show 0 ≤ t by omega);exact hu n m (Nat.zero_le _) (by omega) (by omega)
structure StepAt (list : List Cr) (F : List Fc) (r o : List Int) (t : Int) (s : St) : Prop where
 word : s.f0 ∈ list
 ok : cOk s.f0 = true
 fact : s.f1 = fc F (rd o t)
 back : ∀ k ∈ s.f2, 0 ≤ k ∧ k < t
 few : s.f2.length ≤ 2
 way : Way F s.f0 s.f1 (s.f2.map (rd o))
 size : rd r (rd o t) = 1 + (s.f2.map fun k => rd r (rd o k)).sum
structure VK (list : List Cr) (F : List Fc) (r o : List Int) (goal : Int) (j : Nat) (P : List Int) (S : List St) : Prop where
 slen : S.length = j
 plen : P.length = F.length
 pl : ∀ t : Nat, t < j → rd P (rd o t) = (t : Int)
 st : ∀ t : Nat, t < j → StepAt list F r o t (rdS S t)
 no : ∀ t : Nat, t < j → rd o t ≠ goal
structure ZK (list : List Cr) (F : List Fc) (r o : List Int) (goal : Int) (S : List St) : Prop where
 pos : 0 < S.length
 len : S.length ≤ F.length
 st : ∀ t : Nat, t < S.length → StepAt list F r o t (rdS S t)
 last : rd o ((S.length - 1 : Nat) : Int) = goal
theorem Zy (list : List Cr) (F : List Fc) (r o : List Int) (goal : Int) (P : List Int) (S : List St) (c : Cr) (f : Fc) (fr : List Int) (i x52 x53 : Int) (hfr : ∀ a ∈ fr, 0 ≤ a ∧ a < (P.length : Int)) (hfl : fr.length ≤ 2) (hi : 0 ≤ i ∧ i < (P.length : Int)) (hS : S.length ≤ 1000) (R : List St × Bool → Prop)
  (cont : ∃ t, Ev (fun k => if i = goal then ((Fk.f k (S ++ [⟨c, f, fr.map (rd P)⟩])).bind fun t541 => (some (t541, true))) else (Fl.l1 k list F goal (P.set i.toNat (S.length : Int)) (S ++ [⟨c, f, fr.map (rd P)⟩]) o x52 (wrap64 (x53 + 1)) r)) t ∧ R t) :
  ∀ (n m : Nat), fr.length - m = n → m ≤ fr.length → ∃ t, Ev (fun k => Fl.l2 k list F goal P S i ((fr.take m).map (rd P)) o x52 x53 fr fr.length m r c.f0 c.f1.f0 c.f1.f1 c.f2 c.f3.f0 c.f3.f1 c.f4.f0 c.f4.f1 c.f5 c.f6 f.f0.f0 f.f0.f1 f.f1 fr) t ∧ R t := by
 intro n;induction n with
 | zero =>
  intro m hn hm;obtain rfl : m = fr.length := by omega
  refine Ev.exsucc ?_;simp only [Fl.l2, Int.lt_irrefl, ↓reduceIte, List.take_length, hi.1, hi.2, show S.length < 1099511627776 by omega, Option.bind_some];exact cont
 | succ n ih =>
  intro m hn hm;have hml : m < fr.length := by omega
  have ha := hfr fr[m] (List.getElem_mem hml);have hup := uq_ m;have htk : (fr.take (m + 1)).map (rd P) = (fr.take m).map (rd P) ++ [rd P fr[m]] := by rw [List.take_succ_eq_append_getElem hml, List.map_append, List.map_cons, List.map_nil]
  refine Ev.exsucc ?_;simp only [Fl.l2, qc, qe, hml, ↓reduceIte, rdI hml, ha.1, ha.2, hup, show ((fr.take m).map (rd P)).length < 17592186044416 by rw [List.length_map, List.length_take]; omega, ← htk];exact ih (m + 1) (by omega) (by omega)
theorem Z8 {list : List Cr} (hl : list.length ≤ 1048576) {F : List Fc} {r o : List Int} (h : Szs list F r) (hF : F.length ≤ 144) (ho : Ord F r o) {goal : Int} (hg : At F goal) (R : List St × Bool → Prop)
  (fin : ∀ S, ZK list F r o goal S → ∃ t, Ev (fun k => (Fk.f k S).bind fun t541 => (some (t541, true))) t ∧ R t) :
  ∀ (n j : Nat) (P : List Int) (S : List St), F.length - j = n → j ≤ F.length → VK list F r o goal j P S → ∃ t, Ev (fun k => Fl.l1 k list F goal P S o F.length j r) t ∧ R t := by
 intro n;induction n with
 | zero =>
  intro j P S hn hj ha;exfalso;obtain ⟨t, ht, e⟩ := ho.all goal hg;obtain ⟨m, rfl⟩ := Int.eq_ofNat_of_zero_le ht.1;exact ha.no m (by have := ht.2; omega) e
 | succ n ih =>
  intro j P S hn hj ha;have hjl : j < F.length := by omega
  have hjo : j < o.length := by rw [ho.len]; exact hjl
  have hAj : At F (j : Int) := ⟨by omega, by omega⟩;have hi := ho.at_ _ hAj;have hup := uq_ j;obtain ⟨c, hc, ok, fr, hw, hfa, hfl, hsz, hev⟩ := Qs hl h hF hi;have hlt : ∀ a ∈ fr, ∃ t : Nat, t < j ∧ rd o (t : Int) = a := by
   intro a m;obtain ⟨t, ht, e⟩ := ho.all a (hfa a m);obtain ⟨t', rfl⟩ := Int.eq_ofNat_of_zero_le ht.1;refine ⟨t', ?_, e⟩;have hp : ∀ b ∈ fr, 1 ≤ rd r b := fun b mb => (h.pos (hfa b mb)).1;have hs := Qf fr hp a m;by_cases g : t' < j
   ·exact g
   ·exfalso;by_cases g2 : t' = j
    ·subst g2; rw [e] at hsz; omega
    ·have := ho.up (j : Int) (t' : Int) (by omega) (by omega) ht.2;rw [e] at this; omega
  have hback : (fr.map (rd P)).map (rd o) = fr := by
   rw [List.map_map];refine (List.map_congr_left fun a m => ?_).trans (List.map_id _);obtain ⟨t, t1, t2⟩ := hlt a m;show rd o (rd P a) = a;rw [← t2, ha.pl t t1]
  have hst : StepAt list F r o (j : Int) ⟨c, fc F (rd o j), fr.map (rd P)⟩ := by
   refine ⟨hc, ok, rfl, fun k hk => ?_, by simpa using hfl, by show Way F c _ ((fr.map (rd P)).map (rd o)); rw [hback]; exact hw, ?_⟩
   ·obtain ⟨a, m, rfl⟩ := List.mem_map.1 hk;obtain ⟨t, t1, t2⟩ := hlt a m;rw [← t2, ha.pl t t1];omega
   ·show _ = 1 + ((fr.map (rd P)).map fun k => rd r (rd o k)).sum;rw [show (fun k => rd r (rd o k)) = (rd r ∘ rd o) from rfl, ← List.map_map, hback];exact hsz
  have hS1 : ∀ t : Nat, t < j → rdS (S ++ [⟨c, fc F (rd o j), fr.map (rd P)⟩]) t = rdS S t := fun t ht => qT _ (by omega) (by rw [ha.slen]; omega);have hS2 : rdS (S ++ [⟨c, fc F (rd o j), fr.map (rd P)⟩]) (j : Int) = ⟨c, fc F (rd o j), fr.map (rd P)⟩ := by
   rw [zh (by rw [List.length_append, ha.slen]; simp)];simp [← ha.slen]
  have hall : ∀ t : Nat, t < j + 1 → StepAt list F r o t (rdS (S ++ [⟨c, fc F (rd o j), fr.map (rd P)⟩]) t) := by
   intro t ht;by_cases e : t = j
   ·subst e; rw [hS2]; exact hst
   ·rw [hS1 t (by omega)]; exact ha.st t (by omega)
  refine Ev.exsucc ?_;simp only [Fl.l1, qc, qe, hjl, hjo, ↓reduceIte];refine Ev.exbind hev ?_;simp only [Vv];refine Zy list F r o goal P S c (fc F (rd o j)) fr (rd o j) F.length j (fun a m => by rw [ha.plen]; exact hfa a m) hfl (by rw [ha.plen]; exact hi) (by rw [ha.slen]; omega) R ?_ _ 0 rfl (Nat.zero_le _);by_cases e : rd o (j : Int) = goal
  ·simp only [e, ↓reduceIte];rw [e] at hall;refine fin _ ⟨by simp, by simp [ha.slen]; omega, fun t ht => hall t (by simpa [ha.slen] using ht), by simp [ha.slen]; exact e⟩
  ·simp only [e, ↓reduceIte, hup];obtain ⟨i', hi'⟩ := Int.eq_ofNat_of_zero_le hi.1;refine ih (j + 1) _ _ (by omega) (by omega) ⟨by simp [ha.slen], by rw [List.length_set]; exact ha.plen, fun t ht => ?_, hall, fun t ht => ?_⟩
   ·rw [hi', Int.toNat_natCast];have hil : i' < P.length := by rw [ha.plen]; have := hi.2; omega
    by_cases e2 : t = j
    ·subst e2;rw [hi', qK hil, if_pos rfl, ha.slen]
    ·have ht2 : At F (t : Int) := ⟨by omega, by omega⟩;obtain ⟨u, hu⟩ := Int.eq_ofNat_of_zero_le (ho.at_ _ ht2).1;rw [hu, qK hil, if_neg fun e3 => e2 (by have := ho.one _ _ ht2 hAj (by rw [hu, hi', e3]); omega), ← hu];exact ha.pl t (by omega)
   ·by_cases e2 : t = j
    ·subst e2; exact e
    ·exact ha.no t (by omega)
theorem Z6 {list : List Cr} (hl : list.length ≤ 1048576) {F : List Fc} {r : List Int} (h : Szs list F r) (hF : F.length ≤ 144) {goal : Int} (hg : At F goal) (R : List St × Bool → Prop)
  (fin : ∀ o S, Ord F r o → ZK list F r o goal S → ∃ t, Ev (fun k => (Fk.f k S).bind fun t541 => (some (t541, true))) t ∧ R t) :
  ∀ (n m : Nat), F.length - m = n → m ≤ F.length → ∃ t, Ev (fun k => Fl.l0 k list F goal (rg m) F.length m r) t ∧ R t := by
 intro n;induction n with
 | zero =>
  intro m hn hm;obtain rfl : m = F.length := by omega
  obtain ⟨o, eo, ho⟩ := V0 h hF;refine Ev.exsucc ?_;simp only [Fl.l0, Int.lt_irrefl, ↓reduceIte];refine Ev.exbind eo ?_;simp only [qe, ↓reduceIte, Int.toNat_natCast, show F.length ≤ 35184372088832 by omega, zo];exact Z8 hl h hF ho hg R (fun S hS => fin o S ho hS) _ 0 _ _ rfl (Nat.zero_le _) ⟨rfl, by simp, fun t ht => absurd ht (Nat.not_lt_zero _), fun t ht => absurd ht (Nat.not_lt_zero _), fun t ht => absurd ht (Nat.not_lt_zero _)⟩
 | succ n ih =>
  intro m hn hm;refine Ev.exsucc ?_;simp only [Fl.l0, qc, show m < F.length by omega, ↓reduceIte, show (rg m).length < 17592186044416 by rw [zo]; omega, ZU, uq_ m];exact ih (m + 1) (by omega) (by omega)
def sm : Nat → (Nat → Int) → Int
 | 0, _ => 0
 | n + 1, f => sm n f + f n
theorem Qj {f g : Nat → Int} {k : Nat} {d : Int} : ∀ n, (∀ j, j < n → j ≠ k → f j ≤ g j) → f k ≤ g k + d → sm n f ≤ sm n g + (if k < n then d else 0) := by
 intro n;induction n with
 | zero => intro _ _; simp [sm]
 | succ n ih =>
  intro h1 h2;have i := ih (fun j hj hk => h1 j (by omega) hk) h2;simp only [sm];by_cases e : k = n
  ·subst e;rw [if_neg (Nat.lt_irrefl _)] at i;rw [if_pos (by omega)];omega
  ·have := h1 n (by omega) (fun x => e x.symm);by_cases c : k < n
   ·rw [if_pos c] at i; rw [if_pos (by omega)]; omega
   ·rw [if_neg c] at i; rw [if_neg (by omega)]; omega
theorem Vo {f g : Nat → Int} : ∀ n, (∀ j, j < n → f j = g j) → sm n f = sm n g := by
 intro n;induction n with
 | zero => intro _; rfl
 | succ n ih => intro h; simp only [sm]; rw [ih fun j hj => h j (by omega), h n (by omega)]
theorem ZJ {f : Nat → Int} : ∀ n, (∀ j, j < n → f j = 0) → sm n f = 0 := by
 intro n;induction n with
 | zero => intro _; rfl
 | succ n ih => intro h; simp only [sm]; rw [ih fun j hj => h j (by omega), h n (by omega)]; rfl
section
variable (S : List St) (wt : Nat → Int)
structure Heap : Prop where
 pos : 0 < S.length
 len : S.length ≤ 144
 back : ∀ t, t < S.length → ∀ k ∈ (rdS S t).f2, 0 ≤ k ∧ k < (t : Int)
 few : ∀ t, t < S.length → (rdS S t).f2.length ≤ 2
 wt1 : ∀ t, t < S.length → 1 ≤ wt t
 wtS : ∀ t, t < S.length → wt t < 1000000
 wts : ∀ t, t < S.length → wt t = 1 + ((rdS S t).f2.map fun k => wt k.toNat).sum
def jY (e : Nat) (W : List Int) : Int := sm S.length fun j => if rd W j = 1 then (if e ≤ j then 1 else wt j) else 0
structure Qt (e : Nat) (W : List Int) : Prop where
 len : W.length = S.length
 bin : ∀ j : Nat, j < S.length → rd W j = 0 ∨ rd W j = 1
 closed : ∀ j : Nat, e ≤ j → j < S.length → rd W j = 1 → ∀ k ∈ (rdS S j).f2, rd W k = 1
 top : rd W ((S.length - 1 : Nat) : Int) = 1
 wgt : jY S wt e W ≤ wt (S.length - 1)
end
section
variable {S : List St} {wt : Nat → Int}
theorem jo {W : List Int} {i : Nat} (hi : i < W.length) (j : Int) (hj : 0 ≤ j) : rd (W.set i 1) j = if j = i then 1 else rd W j := by
 obtain ⟨n, rfl⟩ := Int.eq_ofNat_of_zero_le hj;rw [qK hi];by_cases e : n = i
 ·rw [if_pos e, if_pos (by omega)]
 ·rw [if_neg e, if_neg (by omega)]
set_option maxHeartbeats 4000000 in
theorem ZH (h : Heap S wt) (i : Nat) (hi : i < S.length) (R : List St → Prop) (fr : List Int) (hfr : (rdS S i).f2 = fr) (next : ∀ W, Qt S wt i W → ∃ t, Ev (fun k => Fk.l0 k S W ((i : Int) - 1)) t ∧ R t) :
  ∀ (n m : Nat) (W : List Int), fr.length - m = n → m ≤ fr.length → W.length = S.length → (∀ j : Nat, j < S.length → rd W j = 0 ∨ rd W j = 1) → (∀ j : Nat, i + 1 ≤ j → j < S.length → rd W j = 1 → ∀ k ∈ (rdS S j).f2, rd W k = 1) → rd W ((S.length - 1 : Nat) : Int) = 1 →
  (∀ k ∈ fr.take m, rd W k = 1) → jY S wt i W + ((fr.drop m).map fun k => wt k.toNat).sum ≤ wt (S.length - 1) →
  ∃ t, Ev (fun k => Fk.l1 k S W (i : Int) fr fr.length (m : Int)) t ∧ R t := by
 intro n;induction n with
 | zero =>
  intro m W hn hm w1 w2 w3 w4 w5 w6;obtain rfl : m = fr.length := by omega
  have hl := h.len;refine Ev.exsucc ?_;simp only [Fk.l1, Int.lt_irrefl, ↓reduceIte, Qy (show i < 4611686018427387904 by omega)];rw [List.take_length] at w5;rw [List.drop_length, List.map_nil, List.sum_nil] at w6;refine next W ⟨w1, w2, fun j j1 j2 j3 => ?_, w4, by omega⟩;by_cases e : j = i
  ·subst e; rw [hfr]; exact w5
  ·exact w3 j (by omega) j2 j3
 | succ n ih =>
  intro m W hn hm w1 w2 w3 w4 w5 w6;have hml : m < fr.length := by omega
  have g1 : fr.length - (m + 1) = n := by omega
  have g2 : m + 1 ≤ fr.length := by omega
  have hl := h.len;obtain ⟨k, hk⟩ : ∃ k, fr[m] = k := ⟨_, rfl⟩;have hkb := h.back i hi k (hfr ▸ hk ▸ List.getElem_mem hml);obtain ⟨k', hk'⟩ := Int.eq_ofNat_of_zero_le hkb.1;have hkl : k' < W.length := by omega
  have hup := up_ (show m < 4611686018427387904 by have := h.few i hi; rw [hfr] at this; omega);have htk : fr.take (m + 1) = fr.take m ++ [k] := by rw [List.take_succ_eq_append_getElem hml, hk]
  have hdr : fr.drop m = k :: fr.drop (m + 1) := by rw [List.drop_eq_getElem_cons hml, hk]
  rw [hdr, List.map_cons, List.sum_cons] at w6;have hwk := h.wt1 k' (by omega);refine Ev.exsucc ?_;simp only [Fk.l1, qc, qe, hml, ↓reduceIte, rdI hml, hk, hup];simp only [hkb.1, show k < (W.length : Int) by omega, ↓reduceIte];have hki : ¬ i ≤ k' := by omega
  have hkS : k' < S.length := by omega
  have ek : k.toNat = k' := by omega
  have hne : ∀ j : Nat, i + 1 ≤ j → ¬ ((j : Int) = (k' : Int)) := fun j hj => by omega
  have hrs := fun (j : Int) (hj : 0 ≤ j) => jo hkl j hj;have z1 : (W.set k' 1).length = S.length := by rw [List.length_set]; exact w1
  have z2 : ∀ j : Nat, j < S.length → rd (W.set k' 1) j = 0 ∨ rd (W.set k' 1) j = 1 := fun j hj => by
   rw [hrs j (Int.natCast_nonneg j)];split
   ·exact .inr rfl
   ·exact w2 j hj
  have z3 : ∀ j : Nat, i + 1 ≤ j → j < S.length → rd (W.set k' 1) j = 1 → ∀ x ∈ (rdS S j).f2, rd (W.set k' 1) x = 1 := fun j j1 j2 j3 x hx => by
   have hx0 := (h.back j j2 x hx).1;rw [hrs x hx0];split
   ·rfl
   ·rw [hrs j (Int.natCast_nonneg j), if_neg (show ¬ ((j : Int) = (k' : Int)) from hne j (by omega))] at j3;exact w3 j j1 j2 j3 x hx
  have z4 : rd (W.set k' 1) ((S.length - 1 : Nat) : Int) = 1 := by
   rw [hrs _ (Int.natCast_nonneg _)];split
   ·rfl
   ·exact w4
  have z5 : ∀ x ∈ fr.take (m + 1), rd (W.set k' 1) x = 1 := fun x hx => by
   have hx0 : 0 ≤ x := (h.back i hi x (hfr ▸ List.mem_of_mem_take hx)).1;rw [hrs x hx0];split
   ·rfl
   ·rename_i hn2;rw [htk, List.mem_append, List.mem_singleton] at hx;rcases hx with hx | rfl
    ·exact w5 x hx
    ·exact absurd hk' hn2
  have z6 : jY S wt i (W.set k' 1) ≤ jY S wt i W + wt k' := by
   have := Qj (f := fun j : Nat => if rd (W.set k' 1) j = 1 then (if i ≤ j then 1 else wt j) else 0) (g := fun j : Nat => if rd W j = 1 then (if i ≤ j then 1 else wt j) else 0) (k := k') (d := wt k') S.length (fun j hj hn2 => by
     show (if rd (W.set k' 1) j = 1 then (if i ≤ j then 1 else wt j) else 0) ≤ (if rd W j = 1 then (if i ≤ j then 1 else wt j) else 0)
     rw [hrs j (Int.natCast_nonneg j), if_neg (show ¬ ((j : Int) = (k' : Int)) from fun e => hn2 (Int.ofNat.inj e))]
     exact Int.le_refl _) (by
     show (if rd (W.set k' 1) k' = 1 then (if i ≤ k' then 1 else wt k') else 0) ≤ (if rd W k' = 1 then (if i ≤ k' then 1 else wt k') else 0) + wt k'
     rw [hrs k' (Int.natCast_nonneg _), if_pos (show ((k' : Nat) : Int) = (k' : Int) from rfl), if_pos (show (1 : Int) = 1 from rfl), if_neg hki]
     by_cases q : rd W ((k' : Nat) : Int) = 1
     ·rw [if_pos q]; omega
     ·rw [if_neg q]; omega)
   rwa [if_pos hkS] at this
  have key := ih (m + 1) (W.set k' 1) g1 g2 z1 z2 z3 z4 z5 (by rw [ek] at w6; omega);rw [hk', Int.toNat_natCast];exact key
theorem jd (h : Heap S wt) (i : Nat) (hi : i < S.length) (R : List St → Prop) (next : ∀ W, Qt S wt i W → ∃ t, Ev (fun k => Fk.l0 k S W ((i : Int) - 1)) t ∧ R t) (W : List Int) (hW : W.length = S.length) (hk : Qt S wt (i + 1) (W.set i 1)) :
  ∃ t, Ev (fun k => Fk.j1 k S W (i : Int) false) t ∧ R t := by
 have hl := h.len;have hiW : i < W.length := by omega
 have hii : rd (W.set i 1) (i : Int) = 1 := by rw [jo hiW _ (by omega), if_pos rfl]
 refine Ev.exsucc ?_;simp only [Fk.j1, Bool.false_eq_true, ↓reduceIte, qc, qe, hiW, hi, Int.toNat_natCast];refine ZH h i hi R _ rfl next _ 0 (W.set i 1) rfl (Nat.zero_le _) hk.len hk.bin hk.closed hk.top (fun x hx => by simp at hx) ?_;rw [List.drop_zero];have := Qj (f := fun j : Nat => if rd (W.set i 1) j = 1 then (if i ≤ j then 1 else wt j) else 0) (g := fun j : Nat => if rd (W.set i 1) j = 1 then (if i + 1 ≤ j then 1 else wt j) else 0) (k := i) (d := 1 - wt i) S.length (fun j hj hne => by
   (try simp only)
   by_cases e : i ≤ j
   ·rw [if_pos e, if_pos (show i + 1 ≤ j by omega)]; exact Int.le_refl _
   ·rw [if_neg e, if_neg (show ¬ i + 1 ≤ j by omega)]; exact Int.le_refl _) (by
   (try simp only)
   rw [hii, if_pos (show (1 : Int) = 1 from rfl), if_pos (show (1 : Int) = 1 from rfl), if_pos (Nat.le_refl i), if_neg (show ¬ i + 1 ≤ i by omega)]
   omega)
 rw [if_pos hi] at this;have w := hk.wgt;have e := h.wts i hi;unfold jY at w ⊢;omega
theorem ZO (h : Heap S wt) (R : List St → Prop) (fin : ∀ W, Qt S wt 0 W → ∃ t, Ev (fun k => Fk.l2 k W (List.replicate S.length 0) [] S S.length 0) t ∧ R t) :
  ∀ (e : Nat) (W : List Int), e < S.length → Qt S wt e W → ∃ t, Ev (fun k => Fk.l0 k S W ((e : Int) - 1)) t ∧ R t := by
 intro e;induction e with
 | zero =>
  intro W he hk;have hl := h.len;refine Ev.exsucc ?_;simp only [Fk.l0];rw [show ((0 : Nat) : Int) - 1 = -1 from rfl];simp only [show ¬ ((-1 : Int) ≥ 0) by omega, ↓reduceIte, qe, Int.toNat_natCast, show S.length ≤ 35184372088832 by omega];exact fin W hk
 | succ i ih =>
  intro W he hk;have hl := h.len;have hiW : i < W.length := by rw [hk.len]; omega
  refine Ev.exsucc ?_;simp only [Fk.l0];rw [show (((i + 1 : Nat) : Int) - 1) = (i : Int) by omega, w64 (n := (S.length : Int) - 1) (by omega) (by omega)];simp only [show (i : Int) ≥ 0 by omega, show (i : Int) < (S.length : Int) - 1 by omega, show (0 : Int) ≤ (i : Int) by omega, show (i : Int) < (W.length : Int) by omega, ↓reduceIte];rcases hk.bin i (by omega) with e0 | e1
  ·rw [e0];simp only [beq_self_eq_true];refine Ev.exsucc ?_;simp only [Fk.j1, ↓reduceIte, Qy (show i < 4611686018427387904 by omega)];refine ih W (by omega) ⟨hk.len, hk.bin, fun j j1 j2 j3 => ?_, hk.top, ?_⟩
   ·by_cases e : j = i
    ·subst e; rw [e0] at j3; omega
    ·exact hk.closed j (by omega) j2 j3
   ·have w := hk.wgt;unfold jY at w ⊢;rw [Vo (f := fun j : Nat => if rd W j = 1 then (if i ≤ j then 1 else wt j) else 0) (g := fun j : Nat => if rd W j = 1 then (if i + 1 ≤ j then 1 else wt j) else 0) S.length fun j hj => by
     (try simp only)
     by_cases e : j = i
     ·subst e; rw [e0]; rfl
     ·by_cases c : i ≤ j
      ·rw [if_pos c, if_pos (show i + 1 ≤ j by omega)]
      ·rw [if_neg c, if_neg (show ¬ i + 1 ≤ j by omega)]]
    exact w
  ·rw [e1];simp only [show ((1 : Int) == 0) = false by decide];have hs : W.set i 1 = W := by
    refine List.ext_getElem (by simp) fun j h1 h2 => ?_;rw [List.getElem_set];split
    ·rename_i hij; subst hij; rw [rdI hiW] at e1; exact e1.symm
    ·rfl
   exact jd h i (by omega) R (fun W' hW' => ih W' (by omega) hW') W hk.len (by rw [hs]; exact hk)
theorem Qi (h : Heap S wt) (R : List St → Prop) (fin : ∀ W, Qt S wt 0 W → ∃ t, Ev (fun k => Fk.l2 k W (List.replicate S.length 0) [] S S.length 0) t ∧ R t) :
  ∃ t, Ev (fun k => Fk.f k S) t ∧ R t := by
 have hl := h.len;have hp := h.pos;unfold Fk.f;simp only [qe, ↓reduceIte, Int.toNat_natCast, show S.length ≤ 35184372088832 by omega];rw [w64 (n := (S.length : Int) - 1) (by omega) (by omega)];obtain ⟨m, hm⟩ : ∃ m, S.length = m + 1 := ⟨S.length - 1, by omega⟩;have hz : ∀ j : Nat, rd (List.replicate S.length (0 : Int)) (j : Int) = 0 := by
  intro j;show (List.replicate S.length (0 : Int)).getD (j : Int).toNat 0 = 0;rw [List.getD_eq_getElem?_getD, List.getElem?_replicate];split <;> rfl
 have hlz : (List.replicate S.length (0 : Int)).length = S.length := by simp
 have hs := fun (j : Int) (hj : 0 ≤ j) => jo (W := List.replicate S.length (0 : Int)) (i := m) (by omega) j hj;refine Ev.exsucc ?_;simp only [Fk.l0];rw [w64 (n := (S.length : Int) - 1) (by omega) (by omega), show (S.length : Int) - 1 = (m : Int) by omega];simp only [show (m : Int) ≥ 0 by omega, Int.lt_irrefl, ↓reduceIte];refine jd h m (by omega) R (fun W hW => ZO h R fin m W (by omega) hW) _ hlz ⟨by rw [List.length_set]; exact hlz, fun j hj => ?_, fun j j1 j2 => by omega, ?_, ?_⟩
 ·rw [hs j (by omega)];split
  ·exact .inr rfl
  ·exact .inl (hz j)
 ·rw [hs _ (by omega), if_pos (by omega)]
 ·have := Qj (f := fun j : Nat => if rd ((List.replicate S.length (0 : Int)).set m 1) j = 1 then (if m + 1 ≤ j then 1 else wt j) else 0) (g := fun _ => 0) (k := m) (d := wt m) S.length (fun j hj hne => by
    (try simp only)
    rw [hs j (by omega), if_neg (show ¬ ((j : Int) = (m : Int)) by omega), hz j]
    simp) (by
    (try simp only)
    rw [hs m (by omega), if_pos (show ((m : Nat) : Int) = (m : Int) from rfl), if_pos (show (1 : Int) = 1 from rfl), if_neg (show ¬ m + 1 ≤ m by omega)]
    omega)
  rw [ZJ (f := fun _ => 0) S.length fun _ _ => rfl, if_pos (by omega)] at this;unfold jY;rw [show S.length - 1 = m by omega];omega
end
end Q
end Go.Proofs.Ytljhfomkakhflaa

namespace Go.Proofs.Ytljhfomkakhflaa
open Go.RowKit Go.Proofs.YtljhfomkakhflaaW.PrintWords Go.Proofs.YtljhfomkakhflaaW.PrintLast Go.Proofs.YtljhfomkakhflaaW.PrintMore Go.Proofs.Ytljhfomkakhflaa.PA
set_option linter.unusedVariables false
set_option linter.unusedSimpArgs false
namespace Q
theorem zV {V : List Int} (x : Int) {k : Int} (h0 : 0 ≤ k) (h1 : k < (V.length : Int)) : rd (V ++ [x]) k = rd V k := by
 obtain ⟨n, rfl⟩ := Int.eq_ofNat_of_zero_le h0;have hn : n < V.length := by omega
 rw [rdI (by simp; omega), rdI hn, List.getElem_append_left hn]
theorem js (V : List Int) (x : Int) : rd (V ++ [x]) (V.length : Int) = x := by
 rw [rdI (by simp)];simp
theorem zR (K : List St) (s : St) : rdS (K ++ [s]) (K.length : Int) = s := by
 rw [zh (by simp)];simp
structure Zr (list : List Cr) (K : List St) (V : List Int) : Prop where
 good : qh list K
 few : ∀ t : Nat, t < K.length → (rdS K t).f2.length ≤ 2
 vlen : V.length = K.length
 sum : ∀ t : Nat, t < K.length → rd V t = 1 + ((rdS K t).f2.map (rd V)).sum
 bd : ∀ t : Nat, t < K.length → 1 ≤ rd V t ∧ rd V t < 1000000
structure Vk (list : List Cr) (S : List St) (wt : Nat → Int) (W : List Int) (i : Nat) (P : List Int) (K : List St) (V : List Int) : Prop where
 tree : Zr list K V
 plen : P.length = S.length
 cnt : (K.length : Int) = sm i fun j => if rd W j = 1 then 1 else 0
 le : K.length ≤ i
 map : ∀ j : Nat, j < i → rd W j = 1 → 0 ≤ rd P j ∧ rd P j < (K.length : Int) ∧ (rdS K (rd P j)).f1 = (rdS S j).f1 ∧ rd V (rd P j) = wt j
 last : ∀ j : Nat, i = j + 1 → rd W j = 1 → rd P j + 1 = (K.length : Int)
theorem ZL (W P : List Int) (K S : List St) (n i : Int) (c : Cr) (f : Fc) (fr : List Int) (hfr : ∀ a ∈ fr, 0 ≤ a ∧ a < (P.length : Int)) (hfl : fr.length ≤ 2) (hK : K.length ≤ 1000) (R : List St → Prop)
  (cont : ∃ t, Ev (fun k => Fk.l2 k W P (K ++ [⟨c, f, fr.map (rd P)⟩]) S n (wrap64 (i + 1))) t ∧ R t) :
  ∀ (d m : Nat), fr.length - m = d → m ≤ fr.length → ∃ t, Ev (fun k => Fk.l3 k W P K S n i fr fr.length m c.f0 c.f1.f0 c.f1.f1 c.f2 c.f3.f0 c.f3.f1 c.f4.f0 c.f4.f1 c.f5 c.f6 f.f0.f0 f.f0.f1 f.f1 ((fr.take m).map (rd P))) t ∧ R t := by
 intro d;induction d with
 | zero =>
  intro m hn hm;obtain rfl : m = fr.length := by omega
  refine Ev.exsucc ?_;simp only [Fk.l3, Int.lt_irrefl, ↓reduceIte, List.take_length, show K.length < 1099511627776 by omega];exact cont
 | succ d ih =>
  intro m hn hm;have hml : m < fr.length := by omega
  have ha := hfr fr[m] (List.getElem_mem hml);have hup := uq_ m;have htk : (fr.take (m + 1)).map (rd P) = (fr.take m).map (rd P) ++ [rd P fr[m]] := by rw [List.take_succ_eq_append_getElem hml, List.map_append, List.map_cons, List.map_nil]
  refine Ev.exsucc ?_;simp only [Fk.l3, qc, qe, hml, ↓reduceIte, rdI hml, ha.1, ha.2, hup, show ((fr.take m).map (rd P)).length < 17592186044416 by rw [List.length_map, List.length_take]; omega, ← htk];exact ih (m + 1) (by omega) (by omega)
theorem Vg {list : List Cr} {S : List St} {wt : Nat → Int} (h : Heap S wt) (hg : ∀ t : Nat, t < S.length → (rdS S t).f0 ∈ list ∧ cOk (rdS S t).f0 = true ∧ zO (rdS S t).f0 (rdS S t).f1 ((rdS S t).f2.map fun k => (rdS S k).f1)) {W : List Int} (hk : Qt S wt 0 W) (R : List St → Prop)
  (fin : ∀ P K V, Vk list S wt W S.length P K V → R K) :
  ∀ (d i : Nat) (P : List Int) (K : List St) (V : List Int), S.length - i = d → i ≤ S.length → Vk list S wt W i P K V → ∃ t, Ev (fun k => Fk.l2 k W P K S S.length i) t ∧ R t := by
 intro d;induction d with
 | zero =>
  intro i P K V hd hi hs;obtain rfl : i = S.length := by omega
  refine Ev.exsucc ?_;simp only [Fk.l2, Int.lt_irrefl, ↓reduceIte];exact ⟨K, Ev.now K, fin P K V hs⟩
 | succ d ih =>
  intro i P K V hd hi hs;have hil : i < S.length := by omega
  have hl := h.len;have hiW : i < W.length := by rw [hk.len]; exact hil
  have hiP : i < P.length := by rw [hs.plen]; exact hil
  have hup := uq_ i;refine Ev.exsucc ?_;simp only [Fk.l2, qc, qe, hil, hiW, ↓reduceIte, Int.toNat_natCast];rcases hk.bin i hil with e0 | e1
  ·simp only [e0, ↓reduceIte, hup];refine ih (i + 1) P K V (by omega) (by omega) ⟨hs.tree, hs.plen, ?_, by have := hs.le; omega, fun j hj h1 => ?_, fun j hj h1 => ?_⟩
   ·simp only [sm, e0]; have := hs.cnt; simpa using this
   ·by_cases e : j = i
    ·subst e; rw [e0] at h1; omega
    ·exact hs.map j (by omega) h1
   ·obtain rfl : j = i := by omega
    rw [e0] at h1; omega
  ·simp only [e1, show ¬ ((1 : Int) = 0) by omega, ↓reduceIte, hiP];have hset := fun (j : Int) (hj : 0 ≤ j) (hne : ¬ j = (i : Int)) => show rd (P.set i (K.length : Int)) j = rd P j from by
    obtain ⟨n, rfl⟩ := Int.eq_ofNat_of_zero_le hj;rw [qK hiP, if_neg (by omega)]
   have hseti : rd (P.set i (K.length : Int)) (i : Int) = (K.length : Int) := by rw [qK hiP, if_pos rfl]
   have hb := h.back i hil;have hcl := hk.closed i (Nat.zero_le _) hil e1;have hle := hs.le;have hfrm : (rdS S i).f2.map (rd (P.set i (K.length : Int))) = (rdS S i).f2.map (rd P) := List.map_congr_left fun k m => hset k (hb k m).1 (by have := hb k m; omega);have hone : ∀ k ∈ (rdS S i).f2, 0 ≤ rd P k ∧ rd P k < (K.length : Int) ∧ (rdS K (rd P k)).f1 = (rdS S k).f1 ∧ rd V (rd P k) = wt k.toNat := by
    intro k m;obtain ⟨n, rfl⟩ := Int.eq_ofNat_of_zero_le (hb k m).1;exact hs.map n (by have := (hb _ m).2; omega) (hcl _ m)
   obtain ⟨g1, g2, g3⟩ := hg i hil;have hvl := hs.tree.vlen;change ∃ r, Ev (fun k => Fk.l3 k W (P.set i (K.length : Int)) K S S.length i (rdS S i).f2 (rdS S i).f2.length ((0 : Nat) : Int) (rdS S i).f0.f0 (rdS S i).f0.f1.f0 (rdS S i).f0.f1.f1 (rdS S i).f0.f2 (rdS S i).f0.f3.f0 (rdS S i).f0.f3.f1 (rdS S i).f0.f4.f0 (rdS S i).f0.f4.f1 (rdS S i).f0.f5 (rdS S i).f0.f6 (rdS S i).f1.f0.f0 (rdS S i).f1.f0.f1 (rdS S i).f1.f1 (((rdS S i).f2.take 0).map (rd (P.set i (K.length : Int))))) r ∧ R r;refine ZL W (P.set i (K.length : Int)) K S S.length i (rdS S i).f0 (rdS S i).f1 (rdS S i).f2 (fun a m => by rw [List.length_set]; have := hb a m; omega) (h.few i hil) (by omega) R ?_ _ 0 rfl (Nat.zero_le _);rw [hup, hfrm];refine ih (i + 1) _ _ (V ++ [wt i]) (by omega) (by omega) ⟨⟨hs.tree.good.snoc ⟨g1, g2, fun k m => ?_, ?_⟩, fun t ht => ?_, by simp [hvl], fun t ht => ?_, fun t ht => ?_⟩, by rw [List.length_set]; exact hs.plen, ?_, by simp; omega, fun j hj h1 => ?_, fun j hj h1 => ?_⟩
   ·obtain ⟨a, ma, rfl⟩ := List.mem_map.1 m;exact ⟨(hone a ma).1, (hone a ma).2.1⟩
   ·show zO (rdS S i).f0 (rdS S i).f1 (((rdS S i).f2.map (rd P)).map fun j => (rdS K j).f1);rw [List.map_map, show (rdS S i).f2.map ((fun j => (rdS K j).f1) ∘ rd P) = (rdS S i).f2.map fun k => (rdS S k).f1 from List.map_congr_left fun k m => (hone k m).2.2.1];exact g3
   ·by_cases e : t = K.length
    ·subst e; rw [zR]; simpa using h.few i hil
    ·rw [qT _ (by omega) (by simp at ht; omega)]; exact hs.tree.few t (by simp at ht; omega)
   ·by_cases e : t = K.length
    ·subst e;rw [zR, ← hvl, js];show wt i = 1 + (((rdS S i).f2.map (rd P)).map (rd (V ++ [wt i]))).sum;rw [List.map_map, show (rdS S i).f2.map (rd (V ++ [wt i]) ∘ rd P) = (rdS S i).f2.map fun k => wt k.toNat from List.map_congr_left fun k m => by
      show rd (V ++ [wt i]) (rd P k) = wt k.toNat
      rw [zV _ (hone k m).1 (by rw [hvl]; exact (hone k m).2.1)]
      exact (hone k m).2.2.2]
     exact h.wts i hil
    ·have htK : t < K.length := by simp at ht; omega
     rw [qT _ (by omega) (by omega), zV _ (by omega) (by omega), hs.tree.sum t htK];congr 2;refine List.map_congr_left fun k m => ?_;have hb2 := (hs.tree.good t htK).2.2.1 k (by rw [← zh htK]; exact m);exact (zV _ hb2.1 (by omega)).symm
   ·by_cases e : t = K.length
    ·subst e; rw [← hvl, js]; exact ⟨h.wt1 i hil, h.wtS i hil⟩
    ·have htK : t < K.length := by simp at ht; omega
     rw [zV _ (by omega) (by omega)]; exact hs.tree.bd t htK
   ·simp only [sm, e1, ↓reduceIte, List.length_append, List.length_cons, List.length_nil];have := hs.cnt;omega
   ·by_cases e : j = i
    ·subst e;rw [hseti, zR];exact ⟨by omega, by simp only [List.length_append, List.length_cons, List.length_nil]; omega, rfl, by rw [← hvl, js]⟩
    ·obtain ⟨q1, q2, q3, q4⟩ := hs.map j (by omega) h1;rw [hset j (by omega) (by omega)];exact ⟨q1, by simp; omega, by rw [qT _ q1 q2]; exact q3, by rw [zV _ q1 (by omega)]; exact q4⟩
   ·obtain rfl : j = i := by omega
    rw [hseti];simp
theorem Z2 {list : List Cr} {S : List St} {wt : Nat → Int} (h : Heap S wt) (hg : ∀ t : Nat, t < S.length → (rdS S t).f0 ∈ list ∧ cOk (rdS S t).f0 = true ∧ zO (rdS S t).f0 (rdS S t).f1 ((rdS S t).f2.map fun k => (rdS S k).f1)) :
  ∃ K, Ev (fun k => Fk.f k S) K ∧ ∃ V, Zr list K V ∧ 0 < K.length ∧ K.length ≤ 144 ∧ (rdS K ((K.length - 1 : Nat) : Int)).f1 = (rdS S ((S.length - 1 : Nat) : Int)).f1 ∧ rd V ((K.length - 1 : Nat) : Int) = wt (S.length - 1) ∧ (K.length : Int) ≤ wt (S.length - 1) := by
 refine Qi h (fun K => ∃ V, Zr list K V ∧ 0 < K.length ∧ K.length ≤ 144 ∧ (rdS K ((K.length - 1 : Nat) : Int)).f1 = (rdS S ((S.length - 1 : Nat) : Int)).f1 ∧ rd V ((K.length - 1 : Nat) : Int) = wt (S.length - 1) ∧ (K.length : Int) ≤ wt (S.length - 1)) fun W hk => ?_;refine Vg h hg hk _ (fun P K V hs => ?_) _ 0 _ [] [] rfl (Nat.zero_le _) ⟨⟨qh.nil list, fun t ht => by simp at ht, rfl, fun t ht => by simp at ht, fun t ht => by simp at ht⟩, by simp, rfl, Nat.le_refl _, fun j hj => absurd hj (Nat.not_lt_zero _), fun j hj => by omega⟩;have hp := h.pos;have hl := h.len;have m := hs.map (S.length - 1) (by omega) hk.top;have e := hs.last (S.length - 1) (by omega) hk.top;have hle := hs.le;have e2 : rd P ((S.length - 1 : Nat) : Int) = ((K.length - 1 : Nat) : Int) := by omega
 rw [e2] at m;refine ⟨V, hs.tree, by omega, by omega, m.2.2.1, m.2.2.2, ?_⟩;have w := hk.wgt;have c := hs.cnt;rw [c];unfold jY at w;rw [Vo (f := fun j : Nat => if rd W j = 1 then (1 : Int) else 0) (g := fun j : Nat => if rd W j = 1 then (if 0 ≤ j then 1 else wt j) else 0) S.length fun j _ => by simp];exact w
end Q
end Go.Proofs.Ytljhfomkakhflaa

namespace Go.Proofs.Ytljhfomkakhflaa
open Go.RowKit Go.Proofs.YtljhfomkakhflaaW.PrintWords Go.Proofs.YtljhfomkakhflaaW.PrintLast Go.Proofs.YtljhfomkakhflaaW.PrintMore Go.Proofs.Ytljhfomkakhflaa.PA
set_option linter.unusedVariables false
set_option linter.unusedSimpArgs false
namespace Q
abbrev qJ := S58
abbrev Fct := S28
abbrev Crd := S35
def stp (l : List qJ) (i : Int) : qJ := rd_T58 l i
def isF (x : Fct) (a b w : Int) : Bool := (x.f0.f0 == a && x.f0.f1 == b) && x.f1 == w
def zP (l : List qJ) (c : Crd) (who : Int) (pre : List Int) : Bool :=
 if c.f0 = 1 then pre.length == 0 && who == c.f2
 else if c.f0 = 2 then pre.length == 1 && isF (stp l (rd pre 0)).f1 c.f3.f0 c.f3.f1 who
 else if c.f0 = 4 then pre.length == 2 && (isF (stp l (rd pre 0)).f1 c.f3.f0 c.f3.f1 who && isF (stp l (rd pre 1)).f1 c.f4.f0 c.f4.f1 who)
 else pre.length == 2 && (((stp l (rd pre 0)).f1.f0.f0 == c.f3.f0 && (stp l (rd pre 0)).f1.f0.f1 == c.f3.f1) && isF (stp l (rd pre 1)).f1 (stp l (rd pre 0)).f1.f1 c.f4.f1 who)
def jy (l : List qJ) (i : Int) (s : qJ) : Bool :=
 ql s.f0.f0 s.f0.f1.f0 s.f0.f1.f1 s.f0.f2 s.f0.f3.f0 s.f0.f3.f1 s.f0.f4.f0 s.f0.f4.f1 s.f0.f5 s.f0.f6 && ((s.f1.f0.f0 == s.f0.f1.f0 && s.f1.f0.f1 == s.f0.f1.f1) && (s.f2.all (fun p => inB p 0 (i - 1)) && zP l s.f0 s.f1.f1 s.f2))
def qo (l : List qJ) (i : Int) : Bool := inB i 0 ((l.length : Int) - 1) && jy l i (stp l i)
theorem Ev.eq {α : Type} {a b : α} (h : a = b) : Ev (fun _ => some a) b := h ▸ Ev.now a
theorem Qr (l : List qJ) (hl : l.length ≤ 1048576) (i : Int) (h0 : 0 ≤ i) (h1 : i < l.length) (hp : (stp l i).f2.length ≤ 1048576) (a b w : Int) :
  Ev (fun k => Gd.f k l i a b w) ((stp l i).f2.any (fun p => inB p 0 (i - 1) && isF (stp l p).f1 a b w)) := by
 unfold Gd.f;have key := Ev.up0 (stp l i).f2.length (fun j k => Gd.l0 k l i j a b w) (fun j => ((stp l i).f2.drop j).any (fun p => inB p 0 (i - 1) && isF (stp l p).f1 a b w)) ?_ ?_ 0 (Nat.zero_le _)
 ·exact key
 ·intro j hj ih;refine Ev.succ ?_;have e : rd (stp l i).f2 (j : Int) = (stp l i).f2[j] := by simp [rd, hj]
  simp only [Gd.l0, h0, h1, ↓reduceIte, ← show stp l i = rd_T58 l i from rfl, qc, hj, qe, zi, Option.bind_some, e, w64 (n := i - 1) (by omega) (by omega), uq_ j];rw [List.drop_eq_getElem_cons hj, List.any_cons];cases hb : inB (stp l i).f2[j] 0 (i - 1)
  ·simpa using ih
  ·have hb' := qE.1 hb;simp only [↓reduceIte, Bool.true_and, show 0 ≤ (stp l i).f2[j] by omega, show (stp l i).f2[j] < (l.length : Int) by omega, ← show stp l (stp l i).f2[j] = rd_T58 l (stp l i).f2[j] from rfl];unfold isF at ih ⊢;cases hc : (((stp l (stp l i).f2[j]).f1.f0.f0 == a && (stp l (stp l i).f2[j]).f1.f0.f1 == b) && (stp l (stp l i).f2[j]).f1.f1 == w)
   ·simpa using ih
   ·simpa using Ev.now true
 ·refine Ev.succ ?_;simp only [Gd.l0, h0, h1, ↓reduceIte, ← show stp l i = rd_T58 l i from rfl, qc, Nat.lt_irrefl, List.drop_length];exact Ev.now _
theorem two {l : List Int} (h : l.length = 2) : ∃ a b, l = [a, b] := by
 match l, h with
 | [a, b], _ => exact ⟨a, b, rfl⟩
theorem one {l : List Int} (h : l.length = 1) : ∃ a, l = [a] := by
 match l, h with
 | [a], _ => exact ⟨a, rfl⟩
theorem QC (l : List qJ) (hl : l.length ≤ 1048576) (i : Int) (h0 : 0 ≤ i) (h1 : i < l.length) (c : Crd) (who g0 g1 : Int) (pre : List Int) (hpre : (stp l i).f2 = pre) (hp : pre.length ≤ 1048576) (hin : pre.all (fun p => inB p 0 (i - 1)) = true) :
  Ev (fun k => Fz.l0 k l i pre.length c.f0 c.f1.f0 c.f1.f1 c.f2 c.f3.f0 c.f3.f1 c.f4.f0 c.f4.f1 c.f5 c.f6 g0 g1 who pre c.f0 c.f1.f0 c.f1.f1 c.f2 c.f3.f0 c.f3.f1 c.f4.f0 c.f4.f1 c.f5 c.f6) (zP l c who pre) := by
 refine Ev.succ ?_;simp only [Fz.l0, Int.lt_irrefl, ↓reduceIte];unfold zP;by_cases k1 : c.f0 = 1
 ·simp only [k1, ↓reduceIte];by_cases h : who = c.f2
  ·simp only [h, ↓reduceIte];refine Ev.eq ?_;cases pre with
   | nil => simp
   | cons x xs => simp; omega
  ·simp only [h, ↓reduceIte];refine Ev.eq ?_;simp [h]
 ·simp only [k1, ↓reduceIte];by_cases k2 : c.f0 = 2
  ·simp only [k2, ↓reduceIte];by_cases h : pre.length = 1
   ·simp only [show ((pre.length : Int) = 1) by omega, ↓reduceIte];refine Ev.bind (Qr l hl i h0 h1 (by rw [hpre]; exact hp) _ _ _) ?_;obtain ⟨p, rfl⟩ := one h;refine Ev.eq ?_;rw [hpre];simp only [List.all_cons, List.all_nil, Bool.and_true] at hin;simp [hin, rd]
   ·simp only [show ¬ ((pre.length : Int) = 1) by omega, ↓reduceIte];refine Ev.eq ?_;simp [h]
  ·simp only [k2, ↓reduceIte];by_cases h : pre.length = 2
   ·obtain ⟨p, q, rfl⟩ := two h;simp only [List.all_cons, List.all_nil, Bool.and_true, Bool.and_eq_true, qE] at hin;obtain ⟨hp1, hq1⟩ := hin;have ep : rd [p, q] 0 = p := by simp [rd]
    have eq' : rd [p, q] 1 = q := by simp [rd]
    simp only [List.length_cons, List.length_nil, ep, eq', show (((0 + 1 + 1 : Nat) : Int) = 2) by omega, show ((0 : Int) < ((0 + 1 + 1 : Nat) : Int)) by omega, show ((1 : Int) < ((0 + 1 + 1 : Nat) : Int)) by omega, ↓reduceIte,
     show 0 ≤ p by omega, show 0 ≤ q by omega, show p < (l.length : Int) by omega, show q < (l.length : Int) by omega, ← show ∀ x, stp l x = rd_T58 l x from fun _ => rfl]
    unfold isF;by_cases k4 : c.f0 = 4
    ·simp only [k4, ↓reduceIte];cases hc : (((stp l p).f1.f0.f0 == c.f3.f0 && (stp l p).f1.f0.f1 == c.f3.f1) && (stp l p).f1.f1 == who)
     ·refine Ev.eq ?_; simp
     ·refine Ev.eq ?_; simp
    ·simp only [k4, ↓reduceIte];cases ha : (stp l p).f1.f0.f0 == c.f3.f0
     ·refine Ev.eq ?_; simp
     ·cases hb : (stp l p).f1.f0.f1 == c.f3.f1
      ·refine Ev.eq ?_; simp
      ·refine Ev.eq ?_; simp
   ·have h' : ¬ ((pre.length : Int) = 2) := by omega
    by_cases k4 : c.f0 = 4
    ·simp only [k4, h', ↓reduceIte]; refine Ev.eq ?_; simp [h]
    ·simp only [k4, h', ↓reduceIte]; refine Ev.eq ?_; simp [h]
theorem Zx (l : List qJ) (hl : l.length ≤ 1048576) (i : Int) (h0 : 0 ≤ i) (h1 : i < l.length) (c : Crd) (who g0 g1 : Int) (pre : List Int) (hpre : (stp l i).f2 = pre) (hp : pre.length ≤ 1048576) :
  Ev (fun k => Fz.l0 k l i 0 c.f0 c.f1.f0 c.f1.f1 c.f2 c.f3.f0 c.f3.f1 c.f4.f0 c.f4.f1 c.f5 c.f6 g0 g1 who pre c.f0 c.f1.f0 c.f1.f1 c.f2 c.f3.f0 c.f3.f1 c.f4.f0 c.f4.f1 c.f5 c.f6) (pre.all (fun p => inB p 0 (i - 1)) && zP l c who pre) := by
 have key := Ev.up pre.length (fun j (_ : Unit) k => Fz.l0 k l i j c.f0 c.f1.f0 c.f1.f1 c.f2 c.f3.f0 c.f3.f1 c.f4.f0 c.f4.f1 c.f5 c.f6 g0 g1 who pre c.f0 c.f1.f0 c.f1.f1 c.f2 c.f3.f0 c.f3.f1 c.f4.f0 c.f4.f1 c.f5 c.f6)
  (fun j _ => (pre.drop j).all (fun p => inB p 0 (i - 1)) && zP l c who pre) (fun j _ => (pre.take j).all (fun p => inB p 0 (i - 1)) = true) ?_ ?_ 0 () (Nat.zero_le _) (by simp)
 ·exact key
 ·intro j _ hj hs ih;refine Ev.succ ?_;have e : rd pre (j : Int) = pre[j] := by simp [rd, hj]
  simp only [Fz.l0, qc, qe, hj, ↓reduceIte, zi, Option.bind_some, e, w64 (n := i - 1) (by omega) (by omega), uq_ j];rw [List.drop_eq_getElem_cons hj, List.all_cons];cases hb : inB pre[j] 0 (i - 1)
  ·simpa using Ev.now false
  ·simp only [↓reduceIte, Bool.true_and];exact ih () (by rw [List.take_succ_eq_append_getElem hj, List.all_append, hs]; simp [hb])
 ·intro _ hs;rw [List.take_length] at hs;simp only [List.drop_length, List.all_nil, Bool.true_and];exact QC l hl i h0 h1 c who g0 g1 pre hpre hp hs
theorem jH (l : List qJ) (hl : l.length ≤ 1048576) (i : Int) (h0 : 0 ≤ i) (h1 : i < l.length) (p : Int) :
  Gu.f l i p = some (if inB p 0 (i - 1) = true then ((stp l p).f1.f0.f0, (stp l p).f1.f0.f1, (stp l p).f1.f1, true) else (0, 0, 0, false)) := by
 unfold Gu.f;simp only [zx, Option.bind_some, w64 (n := i - 1) (by omega) (by omega)];cases hb : inB p 0 (i - 1)
 ·simp
 ·have := qE.1 hb;simp only [↓reduceIte, show 0 ≤ p by omega, show p < (l.length : Int) by omega, ← show stp l p = rd_T58 l p from rfl]
theorem Z1 (l : List qJ) (hl : l.length ≤ 1048576) (i : Int) (h0 : 0 ≤ i) (h1 : i < l.length) (c : Crd) (hk : 1 ≤ c.f0 ∧ c.f0 ≤ 4) (who g0 g1 : Int) (pre : List Int) (hp : pre.length ≤ 1048576) :
  Ev (fun k => F0.l0 k l i [] pre pre.length 0 c.f0 c.f1.f0 c.f1.f1 c.f2 c.f3.f0 c.f3.f1 c.f4.f0 c.f4.f1 c.f5 c.f6 g0 g1 who pre) (pre.all (fun p => inB p 0 (i - 1)) && zP l c who pre) := by
 have key := Ev.up pre.length (fun j (a : List Fct) k => F0.l0 k l i a pre pre.length j c.f0 c.f1.f0 c.f1.f1 c.f2 c.f3.f0 c.f3.f1 c.f4.f0 c.f4.f1 c.f5 c.f6 g0 g1 who pre)
  (fun j _ => (pre.drop j).all (fun p => inB p 0 (i - 1)) && zP l c who pre) (fun j a => (pre.take j).all (fun p => inB p 0 (i - 1)) = true ∧ a = (pre.take j).map (fun p => (stp l p).f1)) ?_ ?_ 0 [] (Nat.zero_le _) (by simp)
 ·exact key
 ·rintro j a hj ⟨hs, ha⟩ ih;refine Ev.succ ?_;have e : rd pre (j : Int) = pre[j] := by simp [rd, hj]
  have hal : a.length = j := by rw [ha, List.length_map, List.length_take]; omega
  simp only [F0.l0, qc, qe, hj, ↓reduceIte, e, jH l hl i h0 h1, Option.bind_some, uq_ j];rw [List.drop_eq_getElem_cons hj, List.all_cons];cases hb : inB pre[j] 0 (i - 1)
  ·simpa using Ev.now false
  ·simp only [↓reduceIte, Bool.true_and, show a.length < 5864062014805 by omega];exact ih _ ⟨by rw [List.take_succ_eq_append_getElem hj, List.all_append, hs]; simp [hb], by rw [List.take_succ_eq_append_getElem hj, List.map_append, ← ha]; rfl⟩
 ·rintro a ⟨hs, ha⟩;rw [List.take_length] at hs ha;simp only [List.drop_length, List.all_nil, Bool.true_and];refine Ev.succ ?_;simp only [F0.l0, Int.lt_irrefl, ↓reduceIte];have hal : a.length = pre.length := by rw [ha, List.length_map]
  unfold zP;by_cases k1 : c.f0 = 1
  ·simp only [k1, ↓reduceIte];by_cases h : pre.length = 0
   ·simp only [show ((a.length : Int) = 0) by omega, ↓reduceIte];refine Ev.eq ?_; simp [h]
   ·simp only [show ¬ ((a.length : Int) = 0) by omega, ↓reduceIte];refine Ev.eq ?_; simp [h]
  ·by_cases k2 : c.f0 = 2
   ·simp only [k2, show ¬ ((2 : Int) = 1) by omega, ↓reduceIte];by_cases h : pre.length = 1
    ·simp only [show ((a.length : Int) = 1) by omega, ↓reduceIte, show (0 : Int) < 1 by omega];obtain ⟨p, rfl⟩ := one h;subst ha;refine Ev.eq ?_; simp [isF, rd_T28, rd]
    ·simp only [show ¬ ((a.length : Int) = 1) by omega, ↓reduceIte];refine Ev.eq ?_; simp [h]
   ·by_cases h : pre.length = 2
    ·obtain ⟨p, q, rfl⟩ := two h;subst ha;have ep : rd_T28 ([p, q].map (fun p => (stp l p).f1)) 0 = (stp l p).f1 := by simp [rd_T28]
     have eq' : rd_T28 ([p, q].map (fun p => (stp l p).f1)) 1 = (stp l q).f1 := by simp [rd_T28]
     have ep2 : rd [p, q] 0 = p := by simp [rd]
     have eq2 : rd [p, q] 1 = q := by simp [rd]
     simp only [ep, eq', ep2, eq2, hal, List.length_cons, List.length_nil, show (((0 + 1 + 1 : Nat) : Int) = 2) by omega, show ((0 : Int) < ((0 + 1 + 1 : Nat) : Int)) by omega, show ((1 : Int) < ((0 + 1 + 1 : Nat) : Int)) by omega, ↓reduceIte, k1, k2];unfold isF;by_cases k4 : c.f0 = 4
     ·simp only [k4, show ¬ ((4 : Int) = 3) by omega, show (0 : Int) < 2 by omega, show (1 : Int) < 2 by omega, ↓reduceIte];cases hc : (((stp l p).f1.f0.f0 == c.f3.f0 && (stp l p).f1.f0.f1 == c.f3.f1) && (stp l p).f1.f1 == who)
      ·refine Ev.eq ?_; simp
      ·refine Ev.eq ?_; simp
     ·have k3 : c.f0 = 3 := by omega
      simp only [k3, show ¬ ((3 : Int) = 4) by omega, show (0 : Int) < 2 by omega, show (1 : Int) < 2 by omega, ↓reduceIte];cases hc : ((stp l p).f1.f0.f0 == c.f3.f0 && (stp l p).f1.f0.f1 == c.f3.f1)
      ·refine Ev.eq ?_; simp
      ·refine Ev.eq ?_; simp
    ·have h' : ¬ ((a.length : Int) = 2) := by omega
     by_cases k4 : c.f0 = 4
     ·simp only [k4, h', show ¬ ((4 : Int) = 1) by omega, show ¬ ((4 : Int) = 2) by omega, show ¬ ((4 : Int) = 3) by omega, ↓reduceIte]; refine Ev.eq ?_; simp [h]
     ·have k3 : c.f0 = 3 := by omega
      simp only [k3, h', show ¬ ((3 : Int) = 1) by omega, show ¬ ((3 : Int) = 2) by omega, show ¬ ((3 : Int) = 4) by omega, ↓reduceIte]; refine Ev.eq ?_; simp [h]
theorem jx (l : List qJ) (hl : l.length ≤ 1048576) (hp : ∀ x ∈ l, x.f2.length ≤ 1048576) (i : Int) : Ev (fun k => Fz.f k l i) (qo l i) := by
 unfold Fz.f qo;simp only [zi, Option.bind_some, w64 (n := (l.length : Int) - 1) (by omega) (by omega)];cases hb : inB i 0 ((l.length : Int) - 1)
 ·simpa using Ev.now false
 ·have hb' := qE.1 hb;have h0 : 0 ≤ i := by omega
  have h1 : i < l.length := by omega
  have hmem : stp l i ∈ l := by
   have : stp l i = l[i.toNat]'(by omega) := by simp [stp, rd_T58, show i.toNat < l.length by omega]
   rw [this]; exact List.getElem_mem _
  simp only [↓reduceIte, h0, h1, Bool.true_and, ← show stp l i = rd_T58 l i from rfl];refine Ev.bind (vm _ _ _ _ _ _ _ _ _ _) ?_;have key := Zx l hl i h0 h1 (stp l i).f0 (stp l i).f1.f1 (stp l i).f1.f0.f0 (stp l i).f1.f0.f1 (stp l i).f2 rfl (hp _ hmem);unfold jy;cases hc : ql (stp l i).f0.f0 (stp l i).f0.f1.f0 (stp l i).f0.f1.f1 (stp l i).f0.f2 (stp l i).f0.f3.f0 (stp l i).f0.f3.f1 (stp l i).f0.f4.f0 (stp l i).f0.f4.f1 (stp l i).f0.f5 (stp l i).f0.f6
  ·simp only [Bool.false_eq_true, ↓reduceIte, Bool.false_and];refine Ev.succ ?_;simp only [Fz.j0, ↓reduceIte];exact Ev.now _
  ·simp only [↓reduceIte, Bool.true_and];refine Ev.succ ?_;cases h4 : ((stp l i).f1.f0.f0 == (stp l i).f0.f1.f0)
   ·simp only [Fz.j0, Bool.not_false, Bool.true_or, ↓reduceIte, Bool.false_and]; exact Ev.now _
   ·cases h5 : ((stp l i).f1.f0.f1 == (stp l i).f0.f1.f1)
    ·simp only [Fz.j0, Bool.not_false, Bool.or_true, ↓reduceIte, Bool.and_false, Bool.false_and]; exact Ev.now _
    ·simp only [Fz.j0, Bool.not_true, Bool.or_self, Bool.false_eq_true, ↓reduceIte, Bool.and_self, Bool.true_and]; exact key
theorem j5 (l : List qJ) (hl : l.length ≤ 1048576) (hp : ∀ x ∈ l, x.f2.length ≤ 1048576) (i : Int) : Ev (fun k => F0.f k l i) (qo l i) := by
 unfold F0.f qo;simp only [zx, Option.bind_some, w64 (n := (l.length : Int) - 1) (by omega) (by omega)];cases hb : inB i 0 ((l.length : Int) - 1)
 ·simpa using Ev.now false
 ·have hb' := qE.1 hb;have h0 : 0 ≤ i := by omega
  have h1 : i < l.length := by omega
  have hmem : stp l i ∈ l := by
   have : stp l i = l[i.toNat]'(by omega) := by simp [stp, rd_T58, show i.toNat < l.length by omega]
   rw [this]; exact List.getElem_mem _
  simp only [↓reduceIte, h0, h1, Bool.true_and, ← show stp l i = rd_T58 l i from rfl];refine Ev.bind (qU _ _ _ _ _ _ _ _ _ _) ?_;unfold jy;cases hc : ql (stp l i).f0.f0 (stp l i).f0.f1.f0 (stp l i).f0.f1.f1 (stp l i).f0.f2 (stp l i).f0.f3.f0 (stp l i).f0.f3.f1 (stp l i).f0.f4.f0 (stp l i).f0.f4.f1 (stp l i).f0.f5 (stp l i).f0.f6
  ·simp only [Bool.false_eq_true, ↓reduceIte, Bool.false_and];refine Ev.succ ?_;simp only [F0.j0, ↓reduceIte];exact Ev.now _
  ·have key := Z1 l hl i h0 h1 (stp l i).f0 (vO hc).1 (stp l i).f1.f1 (stp l i).f1.f0.f0 (stp l i).f1.f0.f1 (stp l i).f2 (hp _ hmem);simp only [↓reduceIte, Bool.true_and];refine Ev.succ ?_;cases h4 : ((stp l i).f1.f0.f0 == (stp l i).f0.f1.f0)
   ·simp only [F0.j0, Bool.not_false, Bool.true_or, ↓reduceIte, Bool.false_and]; exact Ev.now _
   ·cases h5 : ((stp l i).f1.f0.f1 == (stp l i).f0.f1.f1)
    ·simp only [F0.j0, Bool.not_false, Bool.or_true, ↓reduceIte, Bool.and_false, Bool.false_and]; exact Ev.now _
    ·simp only [F0.j0, Bool.not_true, Bool.or_self, Bool.false_eq_true, ↓reduceIte, Bool.and_self, Bool.true_and]; exact key
theorem zz (l : List qJ) (i : Nat) (h : i < l.length) : stp l i = l[i] := by simp [stp, rd_T58, h]
def qI (l : List qJ) (n : Nat) : Nat → Bool := qS (fun j => qo l (j : Int)) n
theorem zl (l : List qJ) (hl : l.length ≤ 1048576) (hp : ∀ x ∈ l, x.f2.length ≤ 1048576) (n : Nat) (hn : n ≤ l.length) : Ev (fun k => F2.f k l ((n : Int) - 1)) (qI l n 0) := by
 unfold F2.f;refine Ev.up0 n (fun i k => F2.l0 k l ((n : Int) - 1) i) (fun i => qI l n i) ?_ ?_ 0 (Nat.zero_le _)
 ·intro i hi ih;refine Ev.succ ?_;simp only [F2.l0, show ((i : Nat) : Int) ≤ (n : Int) - 1 by omega, ↓reduceIte, uq_ i];refine Ev.bind (j5 l hl hp i) ?_;have e0 : qI l n i = (qo l i && qI l n (i + 1)) := by unfold qI; rw [vJ hi]
  rw [e0];cases qo l i
  ·simpa using Ev.now false
  ·simpa using ih
 ·refine Ev.succ ?_;simp only [F2.l0, show ¬ (((n : Nat) : Int) ≤ (n : Int) - 1) by omega, ↓reduceIte];unfold qI;rw [vG (Nat.lt_irrefl _)];exact Ev.now _
def dOf (D : List Int) (pre : List Int) (a : Int) : Int := pre.foldl (fun a p => mx a (rd D p)) a
theorem Q6 {D : List Int} {B p : Int} (hb : ∀ x ∈ D, 0 ≤ x ∧ x ≤ B) (h0 : 0 ≤ p) (h1 : p < D.length) : 0 ≤ rd D p ∧ rd D p ≤ B := by
 have : rd D p = D[p.toNat]'(by omega) := by simp [rd, show p.toNat < D.length by omega]
 rw [this];exact hb _ (List.getElem_mem _)
theorem Vl {a b B : Int} (h1 : 0 ≤ a ∧ a ≤ B) (h2 : 0 ≤ b ∧ b ≤ B) : 0 ≤ mx a b ∧ mx a b ≤ B := by unfold mx; split <;> omega
theorem Zi {D : List Int} {B : Int} (hb : ∀ x ∈ D, 0 ≤ x ∧ x ≤ B) : ∀ (pre : List Int) (a : Int), (pre.all (fun p => inB p 0 ((D.length : Int) - 1)) = true) → 0 ≤ a ∧ a ≤ B → 0 ≤ dOf D pre a ∧ dOf D pre a ≤ B := by
 intro pre;induction pre with
 | nil => intro a _ h; exact h
 | cons p ps ih =>
  intro a hin ha;simp only [List.all_cons, Bool.and_eq_true, qE] at hin;exact ih _ hin.2 (Vl ha (Q6 hb (by omega) (by omega)))
theorem jK (l : List qJ) (hl : l.length ≤ 1048576) (i : Nat) (hi : i < l.length) (D : List Int) (hD : D.length = i) (hb : ∀ x ∈ D, 0 ≤ x ∧ x ≤ (i : Int)) (m : Int) (pre : List Int) (hp : pre.length ≤ 1048576)
  (hin : pre.all (fun p => inB p 0 ((i : Int) - 1)) = true) (r : Int) (H : Ev (fun k => Fh.l0 k (D ++ [dOf D pre 0 + 1]) (mx m (dOf D pre 0 + 1)) l l.length ((i + 1 : Nat) : Int)) r) :
  Ev (fun k => Fh.l1 k D m 0 l l.length i pre pre.length 0) r := by
 have key := Ev.up pre.length (fun j (a : Int) k => Fh.l1 k D m a l l.length i pre pre.length j) (fun _ _ => r)
  (fun j a => (0 ≤ a ∧ a ≤ (i : Int)) ∧ dOf D (pre.drop j) a = dOf D pre 0) ?_ ?_ 0 0 (Nat.zero_le _) ⟨by omega, rfl⟩
 ·exact key
 ·rintro j a hj ⟨ha, hF⟩ ih;refine Ev.succ ?_;have e : rd pre (j : Int) = pre[j] := by simp [rd, hj]
  have hm := qE.1 (List.all_eq_true.1 hin _ (List.getElem_mem hj));have hr := Q6 hb (p := pre[j]) (by omega) (by omega);simp only [Fh.l1, qc, qe, ↓reduceIte, hj, e, show (0 : Int) ≤ pre[j] by omega, show pre[j] < (D.length : Int) by omega, uq_ j];rw [List.drop_eq_getElem_cons hj] at hF;exact ih (mx a (rd D pre[j])) ⟨Vl ha hr, hF⟩
 ·rintro a ⟨ha, hF⟩;rw [List.drop_length] at hF;have hF : a = dOf D pre 0 := hF;refine Ev.succ ?_;rw [← hF] at H;simp only [Fh.l1, Int.lt_irrefl, ↓reduceIte, show D.length < 17592186044416 by omega, w64 (n := a + 1) (by omega) (by omega), uq_ i];exact H
def vo : List qJ → List Int → Int → Int
 | [], _, m => m
 | s :: r, D, m => vo r (D ++ [dOf D s.f2 0 + 1]) (mx m (dOf D s.f2 0 + 1))
def jf (l : List qJ) : Int := if qI l l.length 0 = true then vo l [] 0 else 0
theorem jQ {l : List qJ} {i : Nat} (hi : i < l.length) (h : qo l i = true) : (stp l i).f2.all (fun p => inB p 0 ((i : Int) - 1)) = true := by
 unfold qo jy at h;simp only [Bool.and_eq_true] at h;exact h.2.2.2.1
theorem VO {D : List Int} {i : Nat} {d : Int} (hb : ∀ x ∈ D, 0 ≤ x ∧ x ≤ (i : Int)) (hd : 0 ≤ d ∧ d ≤ (i : Int)) : ∀ x ∈ D ++ [d + 1], 0 ≤ x ∧ x ≤ ((i + 1 : Nat) : Int) := by
 intro x hx;rcases List.mem_append.1 hx with hx | hx
 ·have := hb x hx; omega
 ·rw [List.mem_singleton.1 hx]; omega
theorem ze (l : List qJ) (hl : l.length ≤ 1048576) (hp : ∀ x ∈ l, x.f2.length ≤ 1048576) : Ev (fun k => Fh.f k l) (jf l) := by
 unfold Fh.f jf;rw [w64 (n := (l.length : Int) - 1) (by omega) (by omega)];refine Ev.bind (zl l hl hp l.length (Nat.le_refl _)) ?_;cases ho : qI l l.length 0
 ·simpa using Ev.now 0
 ·simp only [↓reduceIte];have hall : ∀ (i : Nat), i < l.length → qo l i = true := by
   have := (zq l.length 0 rfl).1 ho;exact fun i hi => this i (Nat.zero_le _) hi
  have key := Ev.up l.length (fun i (s : List Int × Int) k => Fh.l0 k s.1 s.2 l l.length i) (fun i s => vo (l.drop i) s.1 s.2)
   (fun i s => s.1.length = i ∧ ∀ x ∈ s.1, 0 ≤ x ∧ x ≤ (i : Int)) ?_ ?_ 0 ([], 0) (Nat.zero_le _) ⟨rfl, by simp⟩
  ·exact key
  ·rintro i ⟨D, m⟩ hi ⟨hD, hb⟩ ih;have hD : D.length = i := hD;have hb : ∀ x ∈ D, 0 ≤ x ∧ x ≤ (i : Int) := hb;refine Ev.succ ?_;simp only [Fh.l0, qc, qe, hi, ↓reduceIte, ← show stp l i = rd_T58 l i from rfl];have hin := jQ hi (hall i hi);refine jK l hl i hi D hD hb m _ (by rw [zz l i hi]; exact hp _ (List.getElem_mem hi)) hin _ ?_;have hd := Zi hb (stp l i).f2 0 (by rw [hD]; exact hin) (by omega);have := ih (D ++ [dOf D (stp l i).f2 0 + 1], mx m (dOf D (stp l i).f2 0 + 1)) ⟨by simp [hD], VO hb hd⟩;rw [List.drop_eq_getElem_cons hi, vo, ← zz l i hi];exact this
  ·rintro ⟨D, m⟩ _;refine Ev.succ ?_;simp only [Fh.l0, Int.lt_irrefl, ↓reduceIte, List.drop_length, vo];exact Ev.now _
end Q
end Go.Proofs.Ytljhfomkakhflaa

namespace Go.Proofs.Ytljhfomkakhflaa
open Go.RowKit Go.Proofs.YtljhfomkakhflaaW.PrintWords Go.Proofs.YtljhfomkakhflaaW.PrintLast Go.Proofs.YtljhfomkakhflaaW.PrintMore Go.Proofs.Ytljhfomkakhflaa.PA
set_option linter.unusedVariables false
set_option linter.unusedSimpArgs false
namespace Q
def cap (a : Int) : Int := if a > 1000000 then 1000000 else a
theorem Vs (a : Int) : mn a 1000000 = cap a := by rfl
def sOf (D : List Int) (pre : List Int) (a : Int) : Int := pre.foldl (fun a p => a + rd D p) a
theorem VB {D : List Int} (hb : ∀ x ∈ D, 0 ≤ x ∧ x ≤ 1000000) : ∀ (pre : List Int) (a : Int), (pre.all (fun p => inB p 0 ((D.length : Int) - 1)) = true) → a ≤ sOf D pre a ∧ sOf D pre a ≤ a + 1000000 * pre.length := by
 intro pre;induction pre with
 | nil => intro a _; simp [sOf]
 | cons p ps ih =>
  intro a hin;simp only [List.all_cons, Bool.and_eq_true, qE] at hin;have h1 := Q6 hb (p := p) (by omega) (by omega);have h2 := ih (a + rd D p) hin.2;have e : sOf D (p :: ps) a = sOf D ps (a + rd D p) := rfl;rw [e, List.length_cons];omega
theorem jN (y : List qJ) (n : Int) (i : Nat) (hi' : i < 1048576) (D : List Int) (hD : D.length = i) (hb : ∀ x ∈ D, 0 ≤ x ∧ x ≤ 1000000) (pre : List Int) (hp : pre.length ≤ 1048576)
  (hin : pre.all (fun p => inB p 0 ((i : Int) - 1)) = true) (r : Int) (H : Ev (fun k => Fj.l0 k n (D ++ [cap (sOf D pre 1)]) y y.length ((i + 1 : Nat) : Int)) r) :
  Ev (fun k => Fj.l1 k n D 1 y y.length i pre pre.length 0) r := by
 have key := Ev.up pre.length (fun j (a : Int) k => Fj.l1 k n D a y y.length i pre pre.length j) (fun _ _ => r)
  (fun j a => (1 ≤ a ∧ a ≤ 1 + 1000000 * (j : Int)) ∧ sOf D (pre.drop j) a = sOf D pre 1) ?_ ?_ 0 1 (Nat.zero_le _) ⟨by omega, rfl⟩
 ·exact key
 ·rintro j a hj ⟨ha, hF⟩ ih;refine Ev.succ ?_;have e : rd pre (j : Int) = pre[j] := by simp [rd, hj]
  have hm := qE.1 (List.all_eq_true.1 hin _ (List.getElem_mem hj));have hr := Q6 hb (p := pre[j]) (by omega) (by omega);simp only [Fj.l1, qc, qe, ↓reduceIte, hj, e, show (0 : Int) ≤ pre[j] by omega, show pre[j] < (D.length : Int) by omega, w64 (n := a + rd D pre[j]) (by omega) (by omega), uq_ j];rw [List.drop_eq_getElem_cons hj] at hF;exact ih (a + rd D pre[j]) ⟨by omega, hF⟩
 ·rintro a ⟨ha, hF⟩;rw [List.drop_length] at hF;have hF : a = sOf D pre 1 := hF;refine Ev.succ ?_;rw [← hF] at H;simp only [Fj.l1, Int.lt_irrefl, ↓reduceIte, show D.length < 17592186044416 by omega, Vs, uq_ i];exact H
def zk : List qJ → List Int → List Int
 | [], D => D
 | s :: r, D => zk r (D ++ [cap (sOf D s.f2 1)])
def vT (l : List qJ) (n : Int) : Int := if inB n 0 ((l.length : Int) - 1) = true ∧ qI l (n.toNat + 1) 0 = true then rd (zk (l.take (n.toNat + 1)) []) n else 0
theorem VH {D : List Int} {d : Int} (hb : ∀ x ∈ D, 0 ≤ x ∧ x ≤ 1000000) (hd : 0 ≤ d) : ∀ x ∈ D ++ [cap d], 0 ≤ x ∧ x ≤ 1000000 := by
 intro x hx;rcases List.mem_append.1 hx with hx | hx
 ·exact hb x hx
 ·rw [List.mem_singleton.1 hx]; unfold cap; split <;> omega
theorem zC (l : List qJ) (hl : l.length ≤ 1048576) (hp : ∀ x ∈ l, x.f2.length ≤ 1048576) (n : Int) : Ev (fun k => Fj.f k l n) (vT l n) := by
 unfold Fj.f vT;simp only [zx, Option.bind_some, w64 (n := (l.length : Int) - 1) (by omega) (by omega)];cases hb : inB n 0 ((l.length : Int) - 1)
 ·simp only [Bool.false_eq_true, ↓reduceIte, false_and];refine Ev.succ ?_;simp only [Fj.j0, ↓reduceIte];exact Ev.now _
 ·have hb' := qE.1 hb;obtain ⟨m, rfl⟩ := Int.eq_ofNat_of_zero_le hb'.1;simp only [↓reduceIte, true_and, Int.toNat_natCast];have ha := zl l hl hp (m + 1) (by omega);rw [show ((m + 1 : Nat) : Int) - 1 = (m : Int) by omega] at ha;refine Ev.bind ha ?_;refine Ev.succ ?_;cases ho : qI l (m + 1) 0
  ·simp only [Fj.j0, Bool.not_false, Bool.false_eq_true, ↓reduceIte]; exact Ev.now _
  ·simp only [Fj.j0, Bool.not_true, Bool.false_eq_true, ↓reduceIte, w64 (n := (m : Int) + 1) (by omega) (by omega), show (0 : Int) ≤ (m : Int) + 1 by omega, show (m : Int) + 1 ≤ (l.length : Int) by omega, Option.bind_some,
    show ((m : Int) + 1).toNat = m + 1 by omega]
   have hall : ∀ (i : Nat), i < m + 1 → qo l i = true := by
    have := (zq (m + 1) 0 rfl).1 ho;exact fun i hi => this i (Nat.zero_le _) hi
   have hlen : (l.take (m + 1)).length = m + 1 := by rw [List.length_take]; omega
   have key := Ev.up (m + 1) (fun i (D : List Int) k => Fj.l0 k m D (l.take (m + 1)) (l.take (m + 1)).length i) (fun i D => rd (zk ((l.take (m + 1)).drop i) D) m)
    (fun i D => D.length = i ∧ ∀ x ∈ D, 0 ≤ x ∧ x ≤ 1000000) ?_ ?_ 0 [] (Nat.zero_le _) ⟨rfl, by simp⟩
   ·exact key
   ·rintro i D hi ⟨hD, hbD⟩ ih;have hil : i < l.length := by omega
    have hit : i < (l.take (m + 1)).length := by omega
    have es : stp (l.take (m + 1)) i = stp l i := by rw [zz _ i hit, zz l i hil, List.getElem_take]
    refine Ev.succ ?_;simp only [Fj.l0, qc, qe, hit, ↓reduceIte, ← show stp (l.take (m + 1)) i = rd_T58 (l.take (m + 1)) i from rfl, es];have hin := jQ hil (hall i hi);refine jN (l.take (m + 1)) m i (by omega) D hD hbD _ (by rw [zz l i hil]; exact hp _ (List.getElem_mem hil)) hin _ ?_;have hd := VB hbD (stp l i).f2 1 (by rw [hD]; exact hin);have := ih (D ++ [cap (sOf D (stp l i).f2 1)]) ⟨by simp [hD], VH hbD (by omega)⟩;rw [List.drop_eq_getElem_cons hit, zk, List.getElem_take, ← zz l i hil];exact this
   ·rintro D ⟨hD, _⟩;refine Ev.succ ?_;simp only [Fj.l0, hlen, Int.lt_irrefl, ↓reduceIte, show (0 : Int) ≤ (m : Int) by omega, show (m : Int) < (D.length : Int) by omega];rw [List.drop_of_length_le (by omega)];exact Ev.now _
end Q
end Go.Proofs.Ytljhfomkakhflaa

namespace Go.Proofs.Ytljhfomkakhflaa
open Go.RowKit Go.Proofs.YtljhfomkakhflaaW.PrintWords Go.Proofs.YtljhfomkakhflaaW.PrintLast Go.Proofs.YtljhfomkakhflaaW.PrintMore Go.Proofs.Ytljhfomkakhflaa.PA
set_option linter.unusedVariables false
set_option linter.unusedSimpArgs false
namespace Q
theorem jP {F : List Fc} (hR : qg F) (hn : F.Nodup) {c : Cr} (ok : cOk c = true) {f : Fc} {fr : List Int} (hw : Way F c f fr) : zO c f (fr.map (fc F)) := by
 rcases qO ok with k | k | k | k
 ·obtain ⟨e, rfl⟩ := (Zt k).1 hw;exact ⟨by rw [e], .inl ⟨k, by rw [e], rfl⟩⟩
 ·obtain ⟨e, a, _, e1, rfl⟩ := (ZB hR k).1 hw;exact ⟨e, .inr (.inl ⟨k, by simp only [List.map_cons, List.map_nil, fc, e1]⟩)⟩
 ·obtain ⟨e, a, b, ⟨_, e1⟩, ⟨_, e2⟩, rfl⟩ := (Z0 hR k).1 hw;refine ⟨e, .inr (.inr (.inl ⟨k, (fc F a).f1, ?_⟩))⟩;simp only [List.map_cons, List.map_nil, fc, e2];rw [← e1]
 ·obtain ⟨e, a, b, ⟨_, e1⟩, ⟨_, e2⟩, rfl⟩ := (Z3 hR hn k).1 hw;exact ⟨e, .inr (.inr (.inr ⟨k, by simp only [List.map_cons, List.map_nil, fc, e1, e2]⟩))⟩
theorem Va {list : List Cr} {F : List Fc} {r o : List Int} (h : Szs list F r) (hF : F.length ≤ 144) (ho : Ord F r o) {goal : Int} {S : List St} (hu : ZK list F r o goal S) : Heap S (fun t => rd r (rd o (t : Int))) := by
 have hat : ∀ t : Nat, t < S.length → At F (rd o (t : Int)) := fun t ht => ho.at_ _ ⟨by omega, by have := hu.len; omega⟩;refine ⟨hu.pos, by have := hu.len; omega, fun t ht => (hu.st t ht).back, fun t ht => (hu.st t ht).few, fun t ht => (h.pos (hat t ht)).1, fun t ht => h.small (hat t ht), fun t ht => ?_⟩;rw [(hu.st t ht).size];refine congrArg (fun z => 1 + List.sum z) (List.map_congr_left fun k m => ?_);show rd r (rd o k) = rd r (rd o ((k.toNat : Nat) : Int));rw [Int.toNat_of_nonneg ((hu.st t ht).back k m).1]
theorem ZX {list : List Cr} {F : List Fc} {r o : List Int} (h : Szs list F r) {goal : Int} {S : List St} (hu : ZK list F r o goal S) (t : Nat) (ht : t < S.length) :
  (rdS S t).f0 ∈ list ∧ cOk (rdS S t).f0 = true ∧ zO (rdS S t).f0 (rdS S t).f1 ((rdS S t).f2.map fun k => (rdS S k).f1) := by
 have s := hu.st t ht;refine ⟨s.word, s.ok, ?_⟩;have := jP h.right h.nod s.ok s.way;rw [List.map_map] at this;rw [show (rdS S t).f2.map (fun k => (rdS S k).f1) = (rdS S t).f2.map (fc F ∘ rd o) from List.map_congr_left fun k m => by
  obtain ⟨n, rfl⟩ := Int.eq_ofNat_of_zero_le (s.back k m).1
  exact (hu.st n (by have := (s.back _ m).2; omega)).fact]
 exact this
def vR (list : List Cr) (f : Fc) (v : Int) (K : List St) : Prop := ∃ V, Zr list K V ∧ 0 < K.length ∧ K.length ≤ 144 ∧ (rdS K ((K.length - 1 : Nat) : Int)).f1 = f ∧ rd V ((K.length - 1 : Nat) : Int) = v ∧ (K.length : Int) ≤ v
theorem Qh {list : List Cr} (hl : list.length ≤ 1048576) {r : List Int} (h : Szs list (qb list) r) (he : Ev (fun k => Fv.f k list (qb list)) r) {f : Fc} (hf : f ∈ qb list) :
  ∃ K, Ev (fun k => Fl.f k list f.f0.f0 f.f0.f1 f.f1) (K, true) ∧ vR list f (rd r (atF (qb list) f.f0 f.f1)) K := by
 have hF := qr list;rcases zf (qb list) f.f0 f.f1 with ⟨_, hn⟩ | ⟨hat, hfe⟩
 ·exact absurd hf hn
 ·have hA : At (qb list) (atF (qb list) f.f0 f.f1) := hat;have key : ∃ t, Ev (fun k => Fl.f k list f.f0.f0 f.f0.f1 f.f1) t ∧ ∃ K, t = (K, true) ∧ vR list f (rd r (atF (qb list) f.f0 f.f1)) K := by
   unfold Fl.f;refine Ev.exbind (zG list hl) ?_;refine Ev.exbind (vL (qb list) f.f0.f0 f.f0.f1 f.f1 (by omega)) ?_;have e : q8 (qz f.f0.f0 f.f0.f1 f.f1) (qb list) 0 = atF (qb list) f.f0 f.f1 := rfl;rw [e];simp only [show ¬ atF (qb list) f.f0 f.f1 < 0 from by have := hA.1; omega, ↓reduceIte];refine Ev.exbind he ?_;refine Z6 hl h hF hA _ (fun o S ho hu => ?_) (qb list).length 0 rfl (Nat.zero_le _);obtain ⟨K, eK, V, k1, k2, k3, k4, k5, k6⟩ := Z2 (Va h hF ho hu) (ZX h hu);refine ⟨(K, true), Ev.bind eK (Ev.now _), K, rfl, V, k1, k2, k3, ?_, ?_, ?_⟩
   ·rw [k4, (hu.st (S.length - 1) (by have := hu.pos; omega)).fact, hu.last];exact hfe
   ·rw [k5]; show rd r (rd o ((S.length - 1 : Nat) : Int)) = _; rw [hu.last]
   ·have := k6; rw [hu.last] at this; exact this
  obtain ⟨t, e, K, rfl, hK⟩ := key;exact ⟨K, e, hK⟩
theorem z8 (l : List St) (i : Int) : stp l i = rdS l i := rfl
theorem Vj {x : Fc} {a b w : Int} : isF x a b w = true ↔ x = ⟨⟨a, b⟩, w⟩ := by
 obtain ⟨⟨x1, x2⟩, x3⟩ := x;simp [isF, and_assoc]
theorem vu {list : List Cr} {K : List St} (hg : qh list K) (t : Nat) (ht : t < K.length) : qo K (t : Int) = true := by
 obtain ⟨g1, g2, g3, g4⟩ := hg t ht;have e : rdS K (t : Int) = K[t] := zh ht;unfold qo jy;rw [z8, e];have hc : ql K[t].f0.f0 K[t].f0.f1.f0 K[t].f0.f1.f1 K[t].f0.f2 K[t].f0.f3.f0 K[t].f0.f3.f1 K[t].f0.f4.f0 K[t].f0.f4.f1 K[t].f0.f5 K[t].f0.f6 = true := g2;rw [hc];obtain ⟨j0, j⟩ := g4;have h2 : K[t].f2.all (fun p => inB p 0 ((t : Int) - 1)) = true := List.all_eq_true.2 fun p m => by
  have := g3 p m;exact decide_eq_true ⟨this.1, by omega⟩
 have h1 : inB (t : Int) 0 ((K.length : Int) - 1) = true := decide_eq_true ⟨by omega, by omega⟩;rw [h1, h2, j0];simp only [beq_self_eq_true, Bool.true_and, Bool.and_true];unfold zP;rcases j with ⟨k, e1, e2⟩ | ⟨k, e2⟩ | ⟨k, x, e2⟩ | ⟨k, e2⟩
 ·rw [if_pos k, List.map_eq_nil_iff.1 e2, e1];simp
 ·obtain ⟨a, ea, eb⟩ : ∃ a, K[t].f2 = [a] ∧ (rdS K a).f1 = ⟨K[t].f0.f3, K[t].f1.f1⟩ := by
   match hf : K[t].f2, e2 with
   | [a], e2 => exact ⟨a, rfl, by simpa using e2⟩
   | [], e2 => simp at e2
   | a :: b :: l, e2 => simp at e2
  rw [if_neg (by omega), if_pos k, ea];simp only [List.length_cons, List.length_nil, beq_self_eq_true, Bool.true_and];refine Vj.2 ?_;rw [show rd [a] 0 = a from rfl, z8, eb]
 ·obtain ⟨a, b, ea, eb, ec⟩ : ∃ a b, K[t].f2 = [a, b] ∧ (rdS K a).f1 = ⟨K[t].f0.f3, x⟩ ∧ (rdS K b).f1 = ⟨⟨x, K[t].f0.f4.f1⟩, K[t].f1.f1⟩ := by
   match hf : K[t].f2, e2 with
   | [a, b], e2 => exact ⟨a, b, rfl, by simpa using e2⟩
   | [], e2 => simp at e2
   | [a], e2 => simp at e2
   | a :: b :: c :: l, e2 => simp at e2
  rw [if_neg (by omega), if_neg (by omega), if_neg (by omega), ea];simp only [List.length_cons, List.length_nil, beq_self_eq_true, Bool.true_and];rw [show rd [a, b] 0 = a from rfl, show rd [a, b] 1 = b from rfl, z8, z8, eb, ec];simp [isF]
 ·obtain ⟨a, b, ea, eb, ec⟩ : ∃ a b, K[t].f2 = [a, b] ∧ (rdS K a).f1 = ⟨K[t].f0.f3, K[t].f1.f1⟩ ∧ (rdS K b).f1 = ⟨K[t].f0.f4, K[t].f1.f1⟩ := by
   match hf : K[t].f2, e2 with
   | [a, b], e2 => exact ⟨a, b, rfl, by simpa using e2⟩
   | [], e2 => simp at e2
   | [a], e2 => simp at e2
   | a :: b :: c :: l, e2 => simp at e2
  rw [if_neg (by omega), if_neg (by omega), if_pos k, ea];simp only [List.length_cons, List.length_nil, beq_self_eq_true, Bool.true_and];rw [show rd [a, b] 0 = a from rfl, show rd [a, b] 1 = b from rfl, z8, z8, eb, ec];simp [isF]
theorem zD {l : List St} (h : ∀ t : Nat, t < l.length → qo l (t : Int) = true) (n : Nat) (hn : n ≤ l.length) : qI l n 0 = true := by
 unfold qI;exact (zq (n - 0) 0 rfl).2 fun j _ hj => h j (by omega)
theorem Qx (D : List Int) : ∀ (pre : List Int) (a : Int), sOf D pre a = a + (pre.map (rd D)).sum := by
 intro pre;induction pre with
 | nil => intro a; simp [sOf]
 | cons p l ih =>
  intro a;have := ih (a + rd D p);simp only [sOf, List.foldl_cons, List.map_cons, List.sum_cons] at this ⊢;rw [this];omega
theorem ZI {V : List Int} {i : Nat} (hi : i ≤ V.length) {p : Int} (h0 : 0 ≤ p) (h1 : p < (i : Int)) : rd (V.take i) p = rd V p := by
 obtain ⟨n, rfl⟩ := Int.eq_ofNat_of_zero_le h0;rw [rdI (by rw [List.length_take]; omega), rdI (show n < V.length by omega), List.getElem_take]
theorem QO {list : List Cr} {K : List St} {V : List Int} (h : Zr list K V) : ∀ (d i : Nat), K.length - i = d → i ≤ K.length → zk (K.drop i) (V.take i) = V := by
 intro d;induction d with
 | zero =>
  intro i hd hi;obtain rfl : i = K.length := by omega
  rw [List.drop_length, ← h.vlen, List.take_length];rfl
 | succ d ih =>
  intro i hd hi;have hil : i < K.length := by omega
  have hiV : i < V.length := by rw [h.vlen]; exact hil
  rw [List.drop_eq_getElem_cons hil];have e : cap (sOf (V.take i) K[i].f2 1) = V[i] := by
   have hb := (h.good i hil).2.2.1;have hs := h.sum i hil;have hd := h.bd i hil;rw [rdI hiV] at hs hd;rw [Qx, show K[i].f2.map (rd (V.take i)) = K[i].f2.map (rd V) from List.map_congr_left fun p m => ZI (by omega) (hb p m).1 (hb p m).2];rw [zh hil] at hs;rw [← hs];unfold cap;rw [if_neg (by omega)]
  show zk (K.drop (i + 1)) (V.take i ++ [cap (sOf (V.take i) K[i].f2 1)]) = V;rw [e, ← List.take_succ_eq_append_getElem hiV];exact ih (i + 1) (by omega) (by omega)
theorem Qo {list : List Cr} {f : Fc} {v : Int} {K : List St} (h : vR list f v K) : vT K (wrap64 ((K.length : Int) - 1)) = v := by
 obtain ⟨V, ht, h1, h2, h3, h4, h5⟩ := h;rw [w64 (by omega) (by omega)];unfold vT;have hn : ((K.length : Int) - 1).toNat + 1 = K.length := by omega
 rw [hn, if_pos ⟨decide_eq_true ⟨by omega, by omega⟩, zD (fun t ht2 => vu ht.good t ht2) _ (Nat.le_refl _)⟩, List.take_length];have := QO ht K.length 0 rfl (Nat.zero_le _);rw [List.drop_zero, List.take_zero] at this;rw [this, ← h4];congr 1;omega
theorem V1 {l : List Fc} {i : Nat} (h : i < l.length) : rd_T28 l (i : Int) = l[i] := by simp only [rd_T28, qv _ h]
theorem Z7 {l : List Cr} {i : Nat} (h : i < l.length) : rd_T35 l (i : Int) = l[i] := by simp only [rd_T35, qv _ h]
theorem Vt (list : List Cr) (i : Nat) (hi : i < list.length) (hil : list.length ≤ 1048576) (S0 : List St) (next : List Fc) (hnext : next = qi (S0.map (·.f1)) list[i]) (hN : next.Nodup) (hlen : next.length ≤ 144) :
  ∀ (d : Nat) (S : List St) (b : Bool), next.length - S.length = d → S.length ≤ next.length → (∃ t, S = S0 ++ t) → S.map (·.f1) = next.take S.length → qh list S →
  ∃ S', S'.map (·.f1) = next ∧ qh list S' ∧ ∀ R, Ev (fun k => Fr.l1 k list S' next (b || decide (S.length < next.length)) ((i + 1 : Nat) : Int)) R → Ev (fun k => Fr.l2 k list S b i next S0 (S.length : Int)) R := by
 intro d;induction d with
 | zero =>
  intro S b hd hle _ hmap hgood;have he : S.length = next.length := by omega
  refine ⟨S, by rw [hmap, he, List.take_length], hgood, fun R hR => Ev.succ ?_⟩;simp only [Fr.l2, qc, he, Nat.lt_irrefl, ↓reduceIte, uq_ i];simpa only [he, Nat.lt_irrefl, decide_false, Bool.or_false] using hR
 | succ d ih =>
  intro S b hd hle hpre hmap hgood;have hlt : S.length < next.length := by omega
  obtain ⟨t, ht⟩ := hpre;obtain ⟨tf, htf⟩ := zb (S0.map (·.f1)) list[i];have hge : S0.length ≤ S.length := by rw [ht, List.length_append]; omega
  have hmem : next[S.length] ∈ tf := by
   have e : next = S0.map (·.f1) ++ tf := by rw [hnext, htf]
   have h1 : (S0.map (·.f1)).length ≤ S.length := by rw [List.length_map]; exact hge
   have h2 : next[S.length] = (S0.map (·.f1) ++ tf)[S.length]'(by rw [← e]; exact hlt) := by simp only [e]
   rw [h2, List.getElem_append_right h1];exact List.getElem_mem _
  obtain ⟨hnew, ok⟩ := ZG htf (by rw [← hnext]; exact hN) hmem;obtain ⟨hj, hb⟩ := Zc hnew ok;have hS1 : qh list (S ++ [⟨list[i], next[S.length], qM S0 list[i] next[S.length].f1⟩]) := by
   refine hgood.snoc ⟨List.getElem_mem hi, ok, fun j h => ?_, ?_⟩
   ·have := hb j h; omega
   ·have : ((qM S0 list[i] next[S.length].f1).map fun j => (rdS S j).f1) = (qM S0 list[i] next[S.length].f1).map fun j => (rdS S0 j).f1 := by
     apply List.map_congr_left;intro j h;have := hb j h;rw [ht, qT t (by omega) (by omega)]
    show zO list[i] next[S.length] ((qM S0 list[i] next[S.length].f1).map fun j => (rdS S j).f1);rw [this];exact hj
  obtain ⟨S', e1, e2, e3⟩ := ih (S ++ [⟨list[i], next[S.length], qM S0 list[i] next[S.length].f1⟩]) true (by rw [List.length_append, List.length_singleton]; omega) (by rw [List.length_append, List.length_singleton]; omega) ⟨t ++ [⟨list[i], next[S.length], qM S0 list[i] next[S.length].f1⟩], by rw [← List.append_assoc, ← ht]⟩
   (by rw [List.map_append, hmap, List.length_append, List.length_singleton, List.take_succ_eq_append_getElem hlt]; rfl) hS1
  refine ⟨S', e1, e2, fun R hR => Ev.succ ?_⟩;have hS0 : S0.length ≤ 1048576 := by omega
  simp only [Fr.l2, qc, qe, hlt, hi, ↓reduceIte, Z7 hi, V1 hlt, up_ (show S.length < 4611686018427387904 by omega)];refine Ev.bind (ZW S0 list[i] next[S.length].f1 hS0) ?_;simp only [hge, ↓reduceIte, show S.length < 1099511627776 by omega];have h3 := e3 R (by simpa only [hlt, decide_true, Bool.or_true, Bool.true_or] using hR);have hl1 : ((S ++ [(⟨list[i], next[S.length], qM S0 list[i] next[S.length].f1⟩ : St)]).length : Int) = ((S.length + 1 : Nat) : Int) := by rw [List.length_append, List.length_singleton]
  rw [hl1] at h3;exact h3
theorem jq {S : List St} {l : List Fc} (h : S.map (·.f1) = l) : S.length = l.length := by rw [← h, List.length_map]
theorem Vw (list : List Cr) (hil : list.length ≤ 1048576) : ∀ (d i : Nat) (S : List St) (b : Bool), list.length - i = d → i ≤ list.length → qh list S → qg (S.map (·.f1)) → (S.map (·.f1)).Nodup →
  ∃ S', S'.map (·.f1) = qj (list.drop i) (S.map (·.f1)) ∧ qh list S' ∧ S.length ≤ S'.length ∧ ∀ R, Ev (fun k => Fr.l0 k list S' (S'.map (·.f1)) (b || decide (S.length < S'.length))) R → Ev (fun k => Fr.l1 k list S (S.map (·.f1)) b (i : Int)) R := by
 intro d;induction d with
 | zero =>
  intro i S b hd hi hgood _ _;have he : i = list.length := by omega
  subst he;refine ⟨S, by rw [List.drop_length]; rfl, hgood, Nat.le_refl _, fun R hR => Ev.succ ?_⟩;simp only [Fr.l1, qc, Nat.lt_irrefl, ↓reduceIte];simpa only [Nat.lt_irrefl, decide_false, Bool.or_false] using hR
 | succ d ih =>
  intro i S b hd hi hgood hr hn;have hlt : i < list.length := by omega
  have hr1 := qy list[i] hr;have hn1 := qH list[i] hn;have h144 := qn hr1 hn1;have h1440 := qn hr hn;have hle := zy (S.map (·.f1)) list[i];rw [List.length_map] at hle h1440;obtain ⟨tf, htf⟩ := zb (S.map (·.f1)) list[i];obtain ⟨S1, a1, a2, a3⟩ := Vt list i hlt hil S _ rfl hn1 h144 _ S b rfl hle ⟨[], by simp⟩ (by rw [htf, List.take_append_of_le_length (by rw [List.length_map]; exact Nat.le_refl _), ← List.length_map (f := fun x : St => x.f1), List.take_length]) hgood;have hl1 := jq a1;obtain ⟨S', b1, b2, b3, b4⟩ := ih (i + 1) S1 (b || decide (S.length < (qi (S.map (·.f1)) list[i]).length)) (by omega) (by omega) a2 (by rw [a1]; exact hr1) (by rw [a1]; exact hn1);refine ⟨S', ?_, b2, by omega, fun R hR => Ev.succ ?_⟩
  ·rw [b1, a1, List.drop_eq_getElem_cons hlt];rfl
  ·simp only [Fr.l1, qc, qe, hlt, ↓reduceIte, Z7 hlt];refine Ev.bind (jw (S.map (·.f1)) list[i] (by rw [List.length_map]; omega)) ?_;have h2 := a3 R ?_
   ·simpa only [List.length_map] using h2
   ·have h3 := b4 R ?_
    ·rw [a1] at h3;exact h3
    ·have hb : ((b || decide (S.length < (qi (S.map (·.f1)) list[i]).length)) || decide (S1.length < S'.length)) = (b || decide (S.length < S'.length)) := by
      cases b
      ·simp only [Bool.false_or, ← Bool.decide_or];congr 1;apply propext;omega
      ·rfl
     rw [hb];exact hR
theorem VD (list : List Cr) (hil : list.length ≤ 1048576) : ∀ (n : Nat) (S : List St), 145 ≤ n + S.length → qh list S → qg (S.map (·.f1)) → (S.map (·.f1)).Nodup →
  ∃ S', S'.map (·.f1) = qC n list (S.map (·.f1)) ∧ qh list S' ∧ Ev (fun k => Fr.l0 k list S (S.map (·.f1)) true) S' := by
 intro n;induction n with
 | zero =>
  intro S h3 _ h1 h2;have := qn h1 h2;rw [List.length_map] at this;omega
 | succ n ih =>
  intro S h3 hg h1 h2;obtain ⟨S1, a1, a2, a3, a4⟩ := Vw list hil list.length 0 S false rfl (Nat.zero_le _) hg h1 h2;rw [List.drop_zero] at a1;have hl1 := jq a1;unfold qC;by_cases hlt : S.length < S1.length
  ·have hlt' : (S.map (·.f1)).length < (qj list (S.map (·.f1))).length := by rw [List.length_map, ← hl1]; exact hlt
   rw [if_pos hlt'];obtain ⟨S', b1, b2, b3⟩ := ih S1 (by omega) a2 (by rw [a1]; exact qp list h1) (by rw [a1]; exact qx list h2);refine ⟨S', by rw [b1, a1], b2, Ev.succ ?_⟩;simp only [Fr.l0, ↓reduceIte];refine a4 S' ?_;simpa only [hlt, decide_true, Bool.or_true] using b3
  ·have hlt' : ¬ (S.map (·.f1)).length < (qj list (S.map (·.f1))).length := by rw [List.length_map, ← hl1]; exact hlt
   rw [if_neg hlt'];refine ⟨S1, a1, a2, Ev.succ ?_⟩;simp only [Fr.l0, ↓reduceIte];refine a4 S1 ?_;simp only [hlt, decide_false, Bool.or_false];refine Ev.succ ?_;simp only [Fr.l0, Bool.false_eq_true, ↓reduceIte];exact Ev.now _
theorem Zv (list : List Cr) (hil : list.length ≤ 1048576) : ∃ all : List St, all.map (·.f1) = qb list ∧ qh list all ∧ Ev (fun k => Fr.f k list) all := by
 obtain ⟨S, h1, h2, h3⟩ := VD list hil 145 [] (by simp) (qh.nil list) z7 List.nodup_nil;exact ⟨S, h1, h2, by unfold Fr.f; exact h3⟩
end Q
end Go.Proofs.Ytljhfomkakhflaa

namespace Go.Proofs.Ytljhfomkakhflaa
open Go.RowKit Go.Proofs.YtljhfomkakhflaaW.PrintWords Go.Proofs.YtljhfomkakhflaaW.PrintLast Go.Proofs.YtljhfomkakhflaaW.PrintMore Go.Proofs.Ytljhfomkakhflaa.PA
set_option linter.unusedVariables false
set_option linter.unusedSimpArgs false
namespace Q
theorem vq {W : List Bool} {n : Nat} {j : Int} (hn : n < W.length) : rdOf false (W.set n true) j = if j.toNat = n then true else rdOf false W j := by
 unfold rdOf;rw [List.getD_eq_getElem?_getD, List.getD_eq_getElem?_getD, List.getElem?_set];by_cases h : n = j.toNat
 ·subst h;simp [hn]
 ·rw [if_neg h, if_neg (fun e => h e.symm)]
theorem zO.two {c : Cr} {f : Fc} {ps : List Fc} (h : zO c f ps) : ps.length ≤ 2 := by
 rcases h.2 with ⟨_, _, rfl⟩ | ⟨_, rfl⟩ | ⟨_, x, rfl⟩ | ⟨_, rfl⟩ <;> simp
structure jh (list : List Cr) (all : List St) : Prop where
 good : qh list all
 few : all.length ≤ 144
theorem jh.at {list : List Cr} {all : List St} (h : jh list all) {i : Nat} (hi : i < all.length) : zU list all i (rdS all i) := by rw [zh hi]; exact h.good i hi
theorem jh.two {list : List Cr} {all : List St} (h : jh list all) {i : Nat} (hi : i < all.length) : (rdS all i).f2.length ≤ 2 := by
 have := (h.at hi).2.2.2.two;rwa [List.length_map] at this
theorem ZV {list : List Cr} {all : List St} (hf : jh list all) (e i : Nat) (hi : i ≤ e) (he : e < all.length) : ∀ (d kk : Nat) (W : List Bool), (rdS all i).f2.length - kk = d → kk ≤ (rdS all i).f2.length → W.length = e + 1 →
  ∃ W' : List Bool, W'.length = e + 1 ∧ (∀ j : Int, rdOf false W j = true → rdOf false W' j = true) ∧ (∀ j : Int, (i : Int) ≤ j → rdOf false W' j = rdOf false W j) ∧
   (rdOf false W (i : Int) = true → ∀ (q : Nat) (h : q < (rdS all i).f2.length), kk ≤ q → rdOf false W' (rdS all i).f2[q] = true) ∧
   ∀ R, Ev (fun k => Ff.l0 k all (e : Int) W' ((i : Int) - 1)) R → Ev (fun k => Ff.l1 k all (e : Int) W (i : Int) (kk : Int)) R := by
 have hia : i < all.length := by omega
 have hF := (hf.at hia).2.2.1;have h2 := hf.two hia;have h144 := hf.few;have hrd : rd_T58 all (i : Int) = rdS all (i : Int) := rfl;intro d;induction d with
 | zero =>
  intro kk W hd hk hW;refine ⟨W, hW, fun _ h => h, fun _ _ => rfl, fun _ q h hq => by omega, fun R hR => Ev.succ ?_⟩;simp only [Ff.l1, qc, qe, hia, ↓reduceIte, hrd, show ¬ kk < (rdS all i).f2.length by omega, Qy (show i < 4611686018427387904 by omega)];exact hR
 | succ d ih =>
  intro kk W hd hk hW;have hkl : kk < (rdS all i).f2.length := by omega
  by_cases hw : rdOf false W (i : Int) = true
  ·have hb := hF (rdS all i).f2[kk] (List.getElem_mem hkl);obtain ⟨v, hv⟩ := Int.eq_ofNat_of_zero_le hb.1;have hvi : v < i := by omega
   have hvW : v < W.length := by omega
   have hne : ∀ j : Int, (i : Int) ≤ j → rdOf false (W.set v true) j = rdOf false W j := by
    intro j hj;rw [vq hvW, if_neg (by omega)]
   obtain ⟨W', c1, c2, c3, c4, c5⟩ := ih (kk + 1) (W.set v true) (by omega) (by omega) (by rw [List.length_set]; exact hW);refine ⟨W', c1, fun j h => c2 j ?_, fun j hj => (c3 j hj).trans (hne j hj), ?_, fun R hR => Ev.succ ?_⟩
   ·rw [vq hvW];split
    ·rfl
    ·exact h
   ·intro _ q hq hkq;by_cases hqk : q = kk
    ·subst hqk;refine c2 _ ?_;rw [hv, vq hvW, if_pos (by omega)]
    ·exact c4 (by rw [hne _ (Int.le_refl _)]; exact hw) q hq (by omega)
   ·have hv2 : rd (rdS all i).f2 (kk : Int) = (v : Int) := by rw [rdI hkl, hv]
    simp only [Ff.l1, qc, qe, hia, ↓reduceIte, hrd, hkl, show i < W.length by omega, hw, hv2, hvW, Int.toNat_natCast, uq_ kk];exact c5 R hR
  ·refine ⟨W, hW, fun _ h => h, fun _ _ => rfl, fun h => absurd h hw, fun R hR => Ev.succ ?_⟩;simp only [Ff.l1, qc, qe, hia, ↓reduceIte, hrd, hkl, show i < W.length by omega, hw, Qy (show i < 4611686018427387904 by omega)];exact hR
theorem Vi {list : List Cr} {all : List St} (hf : jh list all) (e : Nat) (he : e < all.length) : ∀ (n : Nat) (W : List Bool), n ≤ e + 1 → W.length = e + 1 →
  (∀ i : Nat, n ≤ i → i ≤ e → rdOf false W (i : Int) = true → ∀ j ∈ (rdS all i).f2, rdOf false W j = true) →
  ∃ W' : List Bool, W'.length = e + 1 ∧ (∀ j : Int, rdOf false W j = true → rdOf false W' j = true) ∧ (∀ i : Nat, i ≤ e → rdOf false W' (i : Int) = true → ∀ j ∈ (rdS all i).f2, rdOf false W' j = true) ∧
   ∀ R, Ev (fun k => Ff.l2 k all (e : Int) W' (List.replicate (e + 1) 0) [] 0) R → Ev (fun k => Ff.l0 k all (e : Int) W ((n : Int) - 1)) R := by
 have h144 := hf.few;intro n;induction n with
 | zero =>
  intro W _ hW hc;refine ⟨W, hW, fun _ h => h, fun i hi => hc i (Nat.zero_le _) hi, fun R hR => Ev.succ ?_⟩;have h1 : wrap64 ((e : Int) + 1) = ((e + 1 : Nat) : Int) := up_ (by omega);simp only [Ff.l0, show ¬ (((0 : Nat) : Int) - 1 ≥ 0) by omega, ↓reduceIte, h1, qe, Int.toNat_natCast, show e + 1 ≤ 35184372088832 by omega];exact hR
 | succ n ih =>
  intro W hn hW hc;have hia : n < all.length := by omega
  have hF := (hf.at hia).2.2.1;obtain ⟨W1, a1, a2, a3, a4, a5⟩ := ZV hf e n (by omega) he _ 0 W rfl (Nat.zero_le _) hW;have hcl : ∀ i : Nat, n ≤ i → i ≤ e → rdOf false W1 (i : Int) = true → ∀ j ∈ (rdS all i).f2, rdOf false W1 j = true := by
   intro i hi hie hw j hj;by_cases hin : i = n
   ·subst hin;obtain ⟨q, hq, rfl⟩ := List.mem_iff_getElem.1 hj;exact a4 (by rw [← a3 _ (Int.le_refl _)]; exact hw) q hq (Nat.zero_le _)
   ·rw [a3 _ (by omega)] at hw;exact a2 _ (hc i (by omega) hie hw j hj)
  obtain ⟨W', b1, b2, b3, b4⟩ := ih W1 (by omega) a1 hcl
  ·refine ⟨W', b1, fun j h => b2 j (a2 j h), b3, fun R hR => Ev.succ ?_⟩;have h1 : (((n + 1 : Nat) : Int) - 1) = (n : Int) := by omega
   simp only [Ff.l0, h1, show (n : Int) ≥ 0 by omega, ↓reduceIte];exact a5 R (b4 R hR)
theorem Vd (n : Nat) (j : Int) : rdOf false (List.replicate n false) j = false := by
 unfold rdOf;rw [List.getD_eq_getElem?_getD, List.getElem?_replicate];split <;> rfl
structure Vm (list : List Cr) (all : List St) (W : List Bool) (e : Nat) (i : Nat) (P : List Int) (K : List St) : Prop where
 good : qh list K
 few : ∀ t : Nat, t < K.length → (rdS K t).f2.length ≤ 2
 plen : P.length = e + 1
 le : K.length ≤ i
 map : ∀ j : Nat, j < i → rdOf false W j = true → 0 ≤ rd P j ∧ rd P j < (K.length : Int) ∧ (rdS K (rd P j)).f1 = (rdS all j).f1
 last : ∀ j : Nat, i = j + 1 → rdOf false W j = true → rd P j + 1 = (K.length : Int)
theorem ZT {list : List Cr} {all : List St} (hf : jh list all) (e i : Nat) (hi : i ≤ e) (he : e < all.length) (W : List Bool) (P : List Int) (hat : P.length = e + 1) (out : List St) (ho : out.length ≤ 1000) (c : Cr) (f : Fc) (R : List St × Bool)
  (cont : Ev (fun k => Ff.l2 k all (e : Int) W (P.set i (out.length : Int)) (out ++ [⟨c, f, (rdS all i).f2.map (rd P)⟩]) ((i + 1 : Nat) : Int)) R) :
  ∀ (d kk : Nat), (rdS all i).f2.length - kk = d → kk ≤ (rdS all i).f2.length →
   Ev (fun k => Ff.l3 k all (e : Int) W P out (i : Int) (kk : Int) c.f0 c.f1.f0 c.f1.f1 c.f2 c.f3.f0 c.f3.f1 c.f4.f0 c.f4.f1 c.f5 c.f6 f.f0.f0 f.f0.f1 f.f1 (((rdS all i).f2.take kk).map (rd P))) R := by
 have hia : i < all.length := by omega
 have hF := (hf.at hia).2.2.1;have h2 := hf.two hia;have h144 := hf.few;have hrd : rd_T58 all (i : Int) = rdS all (i : Int) := rfl;intro d;induction d with
 | zero =>
  intro kk hd hk;obtain rfl : kk = (rdS all i).f2.length := by omega
  refine Ev.succ ?_;simp only [Ff.l3, qc, qe, hia, ↓reduceIte, hrd, Nat.lt_irrefl, show i < P.length by omega, show out.length < 1099511627776 by omega, Int.toNat_natCast, uq_ i, List.take_length];exact cont
 | succ d ih =>
  intro kk hd hk;have hkl : kk < (rdS all i).f2.length := by omega
  have hb := hF (rdS all i).f2[kk] (List.getElem_mem hkl);obtain ⟨v, hv⟩ := Int.eq_ofNat_of_zero_le hb.1;have hv2 : rd (rdS all i).f2 (kk : Int) = (v : Int) := by rw [rdI hkl, hv]
  have htk : ((rdS all i).f2.take (kk + 1)).map (rd P) = ((rdS all i).f2.take kk).map (rd P) ++ [rd P (v : Int)] := by rw [List.take_succ_eq_append_getElem hkl, List.map_append, List.map_cons, List.map_nil, hv]
  have hlen : (((rdS all i).f2.take kk).map (rd P)).length < 17592186044416 := by rw [List.length_map, List.length_take]; omega
  have hvP : v < P.length := by omega
  refine Ev.succ ?_;simp only [Ff.l3, qc, qe, hia, ↓reduceIte, hrd, hkl, hv2, hvP, hlen, uq_ kk, ← htk];exact ih (kk + 1) (by omega) (by omega)
theorem Ve {list : List Cr} {all : List St} (hf : jh list all) (e : Nat) (he : e < all.length) {W : List Bool} (hW : W.length = e + 1) (hcl : ∀ i : Nat, i ≤ e → rdOf false W (i : Int) = true → ∀ j ∈ (rdS all i).f2, rdOf false W j = true) :
  ∀ (d i : Nat) (P : List Int) (K : List St), e + 1 - i = d → i ≤ e + 1 → Vm list all W e i P K → ∃ P' K', Vm list all W e (e + 1) P' K' ∧ Ev (fun k => Ff.l2 k all (e : Int) W P K (i : Int)) (K', true) := by
 have h144 := hf.few;intro d;induction d with
 | zero =>
  intro i P K hd hi hs;obtain rfl : i = e + 1 := by omega
  refine ⟨P, K, hs, Ev.succ ?_⟩;simp only [Ff.l2, show ¬ ((e + 1 : Nat) : Int) ≤ (e : Int) by omega, ↓reduceIte];exact Ev.now _
 | succ d ih =>
  intro i P K hd hi hs;have hie : i ≤ e := by omega
  have hia : i < all.length := by omega
  have hiP : i < P.length := by rw [hs.plen]; omega
  have hle := hs.le;have hup := uq_ i;have hrd : rd_T58 all (i : Int) = rdS all (i : Int) := rfl;cases hw : rdOf false W (i : Int) with
  | false =>
   obtain ⟨P', K', h1, h2⟩ := ih (i + 1) P K (by omega) (by omega) ⟨hs.good, hs.few, hs.plen, by omega, fun j hj hj2 => by
     by_cases e : j = i
     ·subst e; rw [hw] at hj2; cases hj2
     ·exact hs.map j (by omega) hj2, fun j hj hj2 => by
     obtain rfl : j = i := by omega
     rw [hw] at hj2; cases hj2⟩
   refine ⟨P', K', h1, Ev.succ ?_⟩;simp only [Ff.l2, show ((i : Int) ≤ (e : Int)) by omega, qe, qc, show i < W.length by omega, hw, Bool.false_eq_true, ↓reduceIte, hup];exact h2
  | true =>
   obtain ⟨g1, g2, g3, g4⟩ := hf.at hia;have hset := fun (j : Int) (hj : 0 ≤ j) (hne : ¬ j = (i : Int)) => show rd (P.set i (K.length : Int)) j = rd P j from by
    obtain ⟨n, rfl⟩ := Int.eq_ofNat_of_zero_le hj;rw [qK hiP, if_neg (by omega)]
   have hseti : rd (P.set i (K.length : Int)) (i : Int) = (K.length : Int) := by rw [qK hiP, if_pos rfl]
   have hone : ∀ k ∈ (rdS all i).f2, 0 ≤ rd P k ∧ rd P k < (K.length : Int) ∧ (rdS K (rd P k)).f1 = (rdS all k).f1 := by
    intro k m;obtain ⟨n, rfl⟩ := Int.eq_ofNat_of_zero_le (g3 k m).1;exact hs.map n (by have := (g3 _ m).2; omega) (hcl i hie hw _ m)
   obtain ⟨P', K', h1, h2⟩ := ih (i + 1) (P.set i (K.length : Int)) (K ++ [⟨(rdS all i).f0, (rdS all i).f1, (rdS all i).f2.map (rd P)⟩]) (by omega) (by omega) ⟨hs.good.snoc ⟨g1, g2, fun k m => by
      obtain ⟨a, ma, rfl⟩ := List.mem_map.1 m
      exact ⟨(hone a ma).1, (hone a ma).2.1⟩, by
      show zO (rdS all i).f0 (rdS all i).f1 (((rdS all i).f2.map (rd P)).map fun j => (rdS K j).f1)
      rw [List.map_map, show (rdS all i).f2.map ((fun j => (rdS K j).f1) ∘ rd P) = (rdS all i).f2.map fun k => (rdS all k).f1 from List.map_congr_left fun k m => (hone k m).2.2]
      exact g4⟩, fun t ht => by
      by_cases e : t = K.length
      ·subst e; rw [zR]; simpa using hf.two hia
      ·rw [qT _ (by omega) (by simp at ht; omega)]; exact hs.few t (by simp at ht; omega), by rw [List.length_set]; exact hs.plen, by simp; omega, fun j hj hj2 => by
      by_cases e : j = i
      ·subst e
       rw [hseti, zR]
       exact ⟨by omega, by simp only [List.length_append, List.length_cons, List.length_nil]; omega, rfl⟩
      ·obtain ⟨q1, q2, q3⟩ := hs.map j (by omega) hj2
       rw [hset j (by omega) (by omega)]
       exact ⟨q1, by simp; omega, by rw [qT _ q1 q2]; exact q3⟩, fun j hj hj2 => by
      obtain rfl : j = i := by omega
      rw [hseti]; simp⟩
   refine ⟨P', K', h1, Ev.succ ?_⟩;simp only [Ff.l2, show ((i : Int) ≤ (e : Int)) by omega, qe, qc, show i < W.length by omega, hia, hw, ↓reduceIte, hrd];exact ZT hf e i hie he W P hs.plen K (by omega) (rdS all i).f0 (rdS all i).f1 (K', true) h2 _ 0 rfl (Nat.zero_le _)
structure zT (list : List Cr) (f : Fc) (K : List St) : Prop where
 good : qh list K
 few : ∀ t : Nat, t < K.length → (rdS K t).f2.length ≤ 2
 pos : 0 < K.length
 len : K.length ≤ 144
 last : (rdS K ((K.length - 1 : Nat) : Int)).f1 = f
theorem QV (list : List Cr) (hil : list.length ≤ 1048576) {f : Fc} (hfm : f ∈ qb list) :
  ∃ out : List St, Ev (fun k => Ff.f k list f.f0.f0 f.f0.f1 f.f1) (out, true) ∧ zT list f out := by
 obtain ⟨all, h1, h2, h3⟩ := Zv list hil;have hlen : all.length ≤ 144 := by rw [jq h1]; exact qr list
 have hfine : jh list all := ⟨h2, hlen⟩;have hat := vy (l := all) (f := f) (by rw [h1]; exact hfm);obtain ⟨e, he, e1, e2⟩ := jA hat;have hset : ∀ j : Int, rdOf false ((List.replicate (e + 1) false).set e true) j = if j.toNat = e then true else false := by
  intro j;rw [vq (by rw [List.length_replicate]; omega), Vd]
 obtain ⟨W, a1, a2, a3, a4⟩ := Vi hfine e he (e + 1) ((List.replicate (e + 1) false).set e true) (Nat.le_refl _) (by rw [List.length_set, List.length_replicate]) (fun i h1 h2 => by omega);obtain ⟨P, out, hs, b5⟩ := Ve hfine e he a1 a3 _ 0 (List.replicate (e + 1) 0) [] rfl (Nat.zero_le _) ⟨qh.nil list, fun t ht => by simp at ht, by rw [List.length_replicate], Nat.le_refl _, fun j hj => absurd hj (Nat.not_lt_zero _), fun j hj => by omega⟩;have hwe : rdOf false W (e : Int) = true := a2 _ (by rw [hset]; simp);obtain ⟨m1, m2, m3⟩ := hs.map e (by omega) hwe;have hl := hs.last e rfl hwe;have hle := hs.le;have ei : rd P (e : Int) = ((out.length - 1 : Nat) : Int) := by omega
 refine ⟨out, ?_, hs.good, hs.few, by omega, by omega, ?_⟩
 ·unfold Ff.f;refine Ev.bind h3 ?_;refine Ev.bind (vP all _ _ _ (by omega)) ?_;have e3 : atS all ⟨⟨f.f0.f0, f.f0.f1⟩, f.f1⟩ = (e : Int) := e1;have h4 : wrap64 ((e : Int) + 1) = ((e + 1 : Nat) : Int) := up_ (by omega);simp only [e3, show ¬ ((e : Int) < 0) by omega, ↓reduceIte, h4, qe, Int.toNat_natCast, show e + 1 ≤ 281474976710656 by omega, Option.bind_some, qc, List.length_replicate, show e < e + 1 by omega];have h5 := a4 _ b5;have h6 : (((e + 1 : Nat) : Int) - 1) = (e : Int) := by omega
  rw [h6] at h5;exact h5
 ·rw [← ei, m3, e2]
end Q
end Go.Proofs.Ytljhfomkakhflaa

namespace Go.Proofs.Ytljhfomkakhflaa
open Go.RowKit Go.Proofs.YtljhfomkakhflaaW.PrintWords Go.Proofs.YtljhfomkakhflaaW.PrintLast Go.Proofs.YtljhfomkakhflaaW.PrintMore Go.Proofs.Ytljhfomkakhflaa.PA
set_option linter.unusedVariables false
set_option linter.unusedSimpArgs false
namespace Q
def qZ (F : List Fc) (r : List Int) (q : Rl) (w : Int) : Int := if atF F q w < 0 then 0 else rd r (atF F q w)
theorem zE (list : List Cr) (hl : list.length ≤ 1048576) (r : List Int) (hr : r.length = (qb list).length) (he : Ev (fun k => Fv.f k list (qb list)) r) (a b w : Int) : Ev (fun k => Fs.f k list a b w) (qZ (qb list) r ⟨a, b⟩ w) := by
 have hF := qr list;have hnd := qt list;unfold Fs.f;refine Ev.bind (vH list hl r hr he) ?_;have hCl := vX (qb list) r;have hC : ∀ (i : Nat) (h : i < (vE (qb list) r).length), (vE (qb list) r)[i] = ⟨rd_T28 (qb list) (i : Nat), rd r (i : Nat)⟩ := by
  intro i h;simp [vE]
 generalize qb list = F at hF hnd hr hCl hC;generalize vE F r = C at hCl hC;have key : ∀ (d i : Nat), C.length - i = d → i ≤ C.length → (∀ j : Nat, j < i → rd_T28 F (j : Int) ≠ ⟨⟨a, b⟩, w⟩) → Ev (fun k => Fs.l0 k w C C.length i a b) (qZ F r ⟨a, b⟩ w) := by
  intro d;induction d with
  | zero =>
   intro i hd hi hno;refine Ev.succ ?_;simp only [Fs.l0, qc, show ¬ i < C.length by omega, ↓reduceIte];unfold qZ;rcases zf F ⟨a, b⟩ w with ⟨h1, _⟩ | ⟨h1, h2⟩
   ·rw [h1, if_pos (by omega)];exact Ev.now _
   ·obtain ⟨p, hp⟩ := Int.eq_ofNat_of_zero_le h1.1;rw [hp] at h1 h2;exact absurd h2 (hno p (by omega))
  | succ d ih =>
   intro i hd hi hno;have hiC : i < C.length := by omega
   have hn := ih (i + 1) (by omega) (by omega);refine Ev.succ ?_;simp only [Fs.l0, qc, qe, hiC, ↓reduceIte, rd_T47, qv _ hiC, qm _ hiC, hC i hiC, uq_ i];have hb : ((((rd_T28 F (i : Int)).f0.f0 == a && (rd_T28 F (i : Int)).f0.f1 == b) && (rd_T28 F (i : Int)).f1 == w) = true) ↔ rd_T28 F (i : Int) = ⟨⟨a, b⟩, w⟩ := by
    obtain ⟨⟨p, q⟩, z⟩ := rd_T28 F (i : Int);simp [and_assoc]
   by_cases h : rd_T28 F (i : Int) = ⟨⟨a, b⟩, w⟩
   ·have hb1 := hb.2 h;simp only [hb1, ↓reduceIte];have e := Qk hnd (i := (i : Int)) ⟨by omega, by omega⟩ h;unfold qZ;rw [e, if_neg (by omega)];exact Ev.now _
   ·have hb0 := Bool.eq_false_iff.2 (fun h' => h (hb.1 h'));simp only [hb0, Bool.false_eq_true, ↓reduceIte];refine hn (fun j hj => ?_);by_cases e : j = i
    ·subst e; exact h
    ·exact hno j (by omega)
 exact key _ 0 rfl (by omega) (fun j hj => by omega)
end Q
end Go.Proofs.Ytljhfomkakhflaa
