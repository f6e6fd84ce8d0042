/-
Plain facts that the pure proofs share: rounds, whole numbers, bytes, and the small functions (ranges, circles, words, numbers as bytes) of the reference and of the program.
-/
import Derived.Test.YtljhfomkakhflaaKFZOpen
import Derived.Test.YtljhfomkakhflaaKFPAx8
import Derived.Test.YtljhfomkakhflaaKFPAx10
import Derived.Test.YtljhfomkakhflaaKFPAx21
import Derived.Test.YtljhfomkakhflaaKFPAx13
namespace Go.Proofs.Ytljhfomkakhflaa
open Go.RowKit Go.Proofs.YtljhfomkakhflaaW.PrintWords Go.Proofs.YtljhfomkakhflaaW.PrintLast Go.Proofs.YtljhfomkakhflaaW.PrintMore Go.Proofs.Ytljhfomkakhflaa.PA
set_option linter.unusedVariables false
set_option linter.unusedSimpArgs false
namespace Q
theorem Ev.succ {α : Type} {g : Nat → Option α} {r : α} (h : Ev (fun k => g (k + 1)) r) : Ev g r := Ev.step (fun _ => rfl) h
theorem Ev.get {α : Type} {g : Nat → Option α} {r : α} (h : Ev g r) : ∃ k, g k = some r := h.rounds
theorem Ev.ite {α : Type} {c : Prop} [Decidable c] {g f : Nat → Option α} {r : α} (h1 : c → Ev g r) (h2 : ¬ c → Ev f r) : Ev (fun k => if c then g k else f k) r := by
 by_cases h : c
 ·simpa [h] using h1 h
 ·simpa [h] using h2 h
theorem w64 {n : Int} (h0 : -9223372036854775808 ≤ n) (h1 : n ≤ 9223372036854775807) : wrap64 n = n := by unfold wrap64; omega
theorem QK (n : Int) (h₀ : 0 ≤ n) (h₁ : n < 2 ^ 63) : IntKind.i64.wrap n = n := by rw [IntKind.wrap_i64]; omega
theorem Ev.up0 {ρ : Type} (n : Nat) (F : Nat → Nat → Option ρ) (R : Nat → ρ) (step : ∀ i, i < n → Ev (F (i + 1)) (R (i + 1)) → Ev (F i) (R i)) (fin : Ev (F n) (R n)) : ∀ i, i ≤ n → Ev (F i) (R i) := by
 have key : ∀ d i, n - i = d → i ≤ n → Ev (F i) (R i) := by
  intro d;induction d with
  | zero =>
   intro i h1 h2;obtain rfl : i = n := by omega
   exact fin
  | succ d ih => exact fun i h1 h2 => step i (by omega) (ih (i + 1) (by omega) (by omega))
 exact fun i h => key _ i rfl h
theorem Ev.up {σ ρ : Type} (n : Nat) (F : Nat → σ → Nat → Option ρ) (R : Nat → σ → ρ) (Inv : Nat → σ → Prop)
  (step : ∀ i s, i < n → Inv i s → (∀ s', Inv (i + 1) s' → Ev (F (i + 1) s') (R (i + 1) s')) → Ev (F i s) (R i s))
  (fin : ∀ s, Inv n s → Ev (F n s) (R n s)) : ∀ i s, i ≤ n → Inv i s → Ev (F i s) (R i s) := by
 have key : ∀ d i s, n - i = d → i ≤ n → Inv i s → Ev (F i s) (R i s) := by
  intro d;induction d with
  | zero =>
   intro i s h1 h2 h3;obtain rfl : i = n := by omega
   exact fin s h3
  | succ d ih => exact fun i s h1 h2 h3 => step i s (by omega) h3 (fun s' h => ih (i + 1) s' (by omega) (by omega) h)
 exact fun i s h h2 => key _ i s rfl h h2
def qS (p : Nat → Bool) (n i : Nat) : Bool := if i < n then p i && qS p n (i + 1) else true
 termination_by n - i
theorem vJ {p : Nat → Bool} {n i : Nat} (h : i < n) : qS p n i = (p i && qS p n (i + 1)) := by rw [qS, if_pos h]
theorem vG {p : Nat → Bool} {n i : Nat} (h : ¬ i < n) : qS p n i = true := by rw [qS, if_neg h]
theorem zq {p : Nat → Bool} {n : Nat} : ∀ d i, n - i = d → (qS p n i = true ↔ ∀ j, i ≤ j → j < n → p j = true) := by
 intro d;induction d with
 | zero =>
  intro i h;rw [vG (by omega)];simp;omega
 | succ d ih =>
  intro i h;rw [vJ (by omega), Bool.and_eq_true, ih (i + 1) (by omega)];constructor
  ·rintro ⟨h1, h2⟩ j h3 h4;rcases Nat.eq_or_lt_of_le h3 with rfl | h5
   ·exact h1
   ·exact h2 j h5 h4
  ·exact fun h => ⟨h i (Nat.le_refl _) (by omega), fun j h1 h2 => h j (by omega) h2⟩
theorem qc {a b : Nat} : ((a : Int) < (b : Int)) = (a < b) := by simp
theorem qe (a : Nat) : ((0 : Int) ≤ (a : Int)) = True := by simp
theorem up_ {i : Nat} (h : i < 4611686018427387904) : wrap64 ((i : Int) + 1) = ((i + 1 : Nat) : Int) := by rw [w64 (by omega) (by omega)]; omega
theorem uq_ (i : Nat) (h : i < 4611686018427387904 := by omega) : wrap64 ((i : Int) + 1) = ((i + 1 : Nat) : Int) := up_ h
theorem Qy {i : Nat} (h : i < 4611686018427387904) : wrap64 ((i : Int) - 1) = (i : Int) - 1 := w64 (by omega) (by omega)
theorem qv {α : Type} {l : List α} {i : Nat} (z : α) (h : i < l.length) : l.getD (i : Int).toNat z = l[i] := by simp [h]
theorem qm {α : Type} {l : List α} {i : Nat} (z : α) (h : i < l.length) : l.getD i z = l[i] := by simp [h]
theorem QT (a b : Int) : (a == b) = decide (a = b) := by by_cases h : a = b <;> simp [h]
def inB (x lo hi : Int) : Bool := decide (lo ≤ x ∧ x ≤ hi)
theorem zi (a b c : Int) : Fw.f a b c = some (inB a b c) := by
 unfold Fw.f inB;by_cases h : a ≥ b
 ·rw [if_pos h]; congr 1; simp; omega
 ·rw [if_neg h]; congr 1; simp; omega
theorem zx (a b c : Int) : Gm.f a b c = some (inB a b c) := by
 unfold Gm.f inB;by_cases h : a ≥ b
 ·rw [if_pos h]; congr 1; simp; omega
 ·rw [if_neg h]; congr 1; simp; omega
def qd (a b : Int) : Bool := inB a 0 5 && inB b 0 3
theorem vp (a b : Int) : F7.f a b = some (qd a b) := by
 unfold F7.f qd;simp only [zi, Option.bind_some];cases inB a 0 5 <;> simp
theorem zp (a b : Int) : F1.f a b = some (qd a b) := by
 unfold F1.f qd;simp only [zx, Option.bind_some];cases inB a 0 5 <;> simp
theorem zB (a : Int) : Gn.f a = some (inB a 0 5) := by
 unfold Gn.f;simp only [zx, Option.bind_some]
def ql (k a b w c d e f u n : Int) : Bool :=
 qd a b && inB u 1 9999 && inB n 0 99 &&
 (if k = 1 then inB w 0 5 && (c == 0 && d == 0) && (e == 0 && f == 0)
  else if k = 2 then w == 0 && qd c d && (e == 0 && f == 0)
  else if k = 3 then w == 0 && qd c d && qd e f && e == 0
  else if k = 4 then w == 0 && qd c d && qd e f
  else false)
theorem vm (k a b w c d e f u n : Int) : Ev (fun q => Gh.f q k a b w c d e f u n) (ql k a b w c d e f u n) := by
 have key : ∀ x : Bool, Ev (fun q => Gh.j0 q x k a b w c d e f u n) (!x &&
  (if k = 1 then inB w 0 5 && (c == 0 && d == 0) && (e == 0 && f == 0)
   else if k = 2 then w == 0 && qd c d && (e == 0 && f == 0)
   else if k = 3 then w == 0 && qd c d && qd e f && e == 0
   else if k = 4 then w == 0 && qd c d && qd e f
   else false)) := by
  intro x;refine Ev.succ ?_;refine Ev.congr (f := fun _ => some _) (fun q => ?_) (Ev.now _);simp only [Gh.j0, zi, vp, Option.bind_some];cases x
  ·by_cases h1 : k = 1
   ·simp only [h1, if_true]; cases inB w 0 5 <;> cases (c == 0 && d == 0) <;> simp
   ·by_cases h2 : k = 2
    ·by_cases hw : w = 0 <;> simp [h2, hw] <;> cases qd c d <;> simp
    ·by_cases h3 : k = 3
     ·by_cases hw : w = 0 <;> simp [h3, hw] <;> cases qd c d <;> cases qd e f <;> simp
     ·by_cases h4 : k = 4
      ·by_cases hw : w = 0 <;> simp [h4, hw] <;> cases qd c d <;> cases qd e f <;> simp
      ·simp [h1, h2, h3, h4]
  ·simp
 unfold Gh.f;simp only [zi, vp, Option.bind_some];unfold ql;cases h1 : qd a b
 ·simpa using key true
 ·cases h2 : inB u 1 9999
  ·simpa using key true
  ·cases h3 : inB n 0 99
   ·simpa using key true
   ·simpa using key false
theorem qU (k a b w c d e f u n : Int) : Ev (fun q => Ga.f q k a b w c d e f u n) (ql k a b w c d e f u n) := by
 have key : ∀ x : Bool, Ev (fun q => Ga.j0 q x k a b w c d e f u n) (!x &&
  (if k = 1 then inB w 0 5 && (c == 0 && d == 0) && (e == 0 && f == 0)
   else if k = 2 then w == 0 && qd c d && (e == 0 && f == 0)
   else if k = 3 then w == 0 && qd c d && qd e f && e == 0
   else if k = 4 then w == 0 && qd c d && qd e f
   else false)) := by
  intro x;refine Ev.succ ?_;refine Ev.congr (f := fun _ => some _) (fun q => ?_) (Ev.now _);simp only [Ga.j0, zB, zp, Option.bind_some];cases x
  ·by_cases h1 : k = 1
   ·simp only [h1, if_true]; cases inB w 0 5 <;> cases (c == 0 && d == 0) <;> simp
   ·by_cases h2 : k = 2
    ·by_cases hw : w = 0 <;> simp [h2, hw] <;> cases qd c d <;> simp
    ·by_cases h3 : k = 3
     ·by_cases hw : w = 0 <;> simp [h3, hw] <;> cases qd c d <;> cases qd e f <;> simp
     ·by_cases h4 : k = 4
      ·by_cases hw : w = 0 <;> simp [h4, hw] <;> cases qd c d <;> cases qd e f <;> simp
      ·simp [h1, h2, h3, h4]
  ·simp
 unfold Ga.f;simp only [zx, zp, Option.bind_some];unfold ql;cases h1 : qd a b
 ·simpa using key true
 ·cases h2 : inB u 1 9999
  ·simpa using key true
  ·cases h3 : inB n 0 99
   ·simpa using key true
   ·simpa using key false
theorem VL {α : Type} (acc : List α) (x : α) (l : List α) : acc ++ x :: l = (acc ++ [x]) ++ l := by simp
theorem qE {x lo hi : Int} : inB x lo hi = true ↔ lo ≤ x ∧ x ≤ hi := by simp [inB]
theorem Qg {a b : Int} : qd a b = true ↔ (0 ≤ a ∧ a ≤ 5) ∧ (0 ≤ b ∧ b ≤ 3) := by simp [qd, inB]
theorem vO {k a b w c d e f u n : Int} (h : ql k a b w c d e f u n = true) :
  (1 ≤ k ∧ k ≤ 4) ∧ (0 ≤ a ∧ a ≤ 5) ∧ (0 ≤ b ∧ b ≤ 3) ∧ (0 ≤ w ∧ w ≤ 5) ∧ (0 ≤ c ∧ c ≤ 5) ∧ (0 ≤ d ∧ d ≤ 3) ∧ (0 ≤ e ∧ e ≤ 5) ∧ (0 ≤ f ∧ f ≤ 3) ∧ (1 ≤ u ∧ u ≤ 9999) ∧ (0 ≤ n ∧ n ≤ 99) := by
 unfold ql at h;by_cases h1 : k = 1
 ·simp [h1, inB, qd] at h; omega
 ·by_cases h2 : k = 2
  ·simp [h2, inB, qd] at h; omega
  ·by_cases h3 : k = 3
   ·simp [h3, inB, qd] at h; omega
   ·by_cases h4 : k = 4
    ·simp [h4, inB, qd] at h; omega
    ·simp [h1, h2, h3, h4] at h
abbrev Rl := S26
abbrev Fc := S28
abbrev Cr := S35
instance decRl : DecidableEq Rl := fun a b => decidable_of_iff (a.f0 = b.f0 ∧ a.f1 = b.f1) (by cases a; cases b; simp)
instance decFc : DecidableEq Fc := fun a b => decidable_of_iff (a.f0 = b.f0 ∧ a.f1 = b.f1) (by cases a; cases b; simp)
def fOk (f : Fc) : Bool := qd f.f0.f0 f.f0.f1 && inB f.f1 0 5
def cOk (c : Cr) : Bool := ql c.f0 c.f1.f0 c.f1.f1 c.f2 c.f3.f0 c.f3.f1 c.f4.f0 c.f4.f1 c.f5 c.f6
def qz (a b c : Int) (x : Fc) : Bool := (x.f0.f0 == a && x.f0.f1 == b) && x.f1 == c
theorem zu (a b c : Int) (x : Fc) : qz a b c x = true ↔ x = ⟨⟨a, b⟩, c⟩ := by
 obtain ⟨⟨p, q⟩, r⟩ := x;simp [qz, and_assoc]
theorem vD (l : List Fc) (a b c : Int) : l.any (qz a b c) = decide ((⟨⟨a, b⟩, c⟩ : Fc) ∈ l) := by
 rw [Bool.eq_iff_iff, List.any_eq_true, decide_eq_true_eq];constructor
 ·rintro ⟨x, hx, h⟩;rw [zu] at h;exact h ▸ hx
 ·exact fun h => ⟨_, h, (zu _ _ _ _).2 rfl⟩
theorem QR (a b c : Int) (x : Fc) : ((a == x.f0.f0 && b == x.f0.f1) && c == x.f1) = qz a b c x := by
 unfold qz;rw [QT, QT, QT, QT, QT, QT];simp only [eq_comm]
theorem jb (l : List Fc) (a b c : Int) (h : l.length ≤ 1048576) : Ev (fun k => Gj.f k l a b c) (decide ((⟨⟨a, b⟩, c⟩ : Fc) ∈ l)) := by
 rw [← vD];unfold Gj.f;have key := Ev.up0 l.length (fun i k => Gj.l0 k l i a b c) (fun i => (l.drop i).any (qz a b c)) ?_ ?_ 0 (Nat.zero_le _)
 ·exact key
 ·intro i hi hn;refine Ev.succ ?_;simp only [Gj.l0, qc, qe, hi, ↓reduceIte, rd_T28, qv _ hi, qm _ hi, uq_ i];rw [List.drop_eq_getElem_cons hi, List.any_cons];unfold qz at hn ⊢;cases hb : ((l[i].f0.f0 == a && l[i].f0.f1 == b) && l[i].f1 == c)
  ·simp only [Bool.false_eq_true, ↓reduceIte, Bool.false_or];exact hn
  ·simp only [↓reduceIte, Bool.true_or];exact Ev.now _
 ·refine Ev.succ ?_;simp only [Gj.l0, qc, Nat.lt_irrefl, ↓reduceIte, List.drop_length];exact Ev.now _
def q8 (p : Fc → Bool) : List Fc → Int → Int
 | [], _ => -1
 | x :: xs, i => if p x = true then i else q8 p xs (i + 1)
theorem j9 (p : Fc → Bool) : ∀ (l : List Fc) (i : Int), 0 ≤ i → (decide (q8 p l i ≥ 0)) = l.any p := by
 intro l;induction l with
 | nil => intro i h; simp [q8]
 | cons x xs ih =>
  intro i h;unfold q8;cases hp : p x
  ·simp [hp, ← ih (i + 1) (by omega)]
  ·simp [hp, h]
theorem vL (l : List Fc) (a b c : Int) (h : l.length ≤ 1048576) : Ev (fun k => F5.f k l a b c) (q8 (qz a b c) l 0) := by
 unfold F5.f;refine Ev.up0 l.length (fun i k => F5.l0 k l l.length i a b c) (fun i => q8 (qz a b c) (l.drop i) i) ?_ ?_ 0 (Nat.zero_le _)
 ·intro i hi hn;refine Ev.succ ?_;simp only [F5.l0, qc, qe, hi, ↓reduceIte, rd_T28, qv _ hi, qm _ hi, uq_ i, QR];rw [List.drop_eq_getElem_cons hi];unfold q8;cases hb : qz a b c l[i]
  ·simp only [Bool.false_eq_true, ↓reduceIte];exact hn
  ·simp only [↓reduceIte];exact Ev.now _
 ·refine Ev.succ ?_;simp only [F5.l0, qc, Nat.lt_irrefl, ↓reduceIte, List.drop_length];exact Ev.now _
theorem Zf (l : List Fc) (a b c : Int) (h : l.length ≤ 1048576) : Ev (fun k => Gt.f k l a b c) (decide ((⟨⟨a, b⟩, c⟩ : Fc) ∈ l)) := by
 unfold Gt.f;refine Ev.bind (vL l a b c h) ?_;rw [j9 (qz a b c) l 0 (Int.le_refl _), vD];exact Ev.now _
def qw (l : List Fc) (f : Fc) : List Fc := if f ∈ l then l else l ++ [f]
theorem vN (l : List Fc) (f : Fc) : l.length ≤ (qw l f).length ∧ (qw l f).length ≤ l.length + 1 := by
 unfold qw;split
 ·omega
 ·simp
theorem Z9 {l : List Fc} {f g : Fc} : g ∈ qw l f ↔ g ∈ l ∨ g = f := by
 unfold qw;split
 ·rename_i h;constructor
  ·exact .inl
  ·rintro (h' | rfl)
   ·exact h'
   ·exact h
 ·simp
theorem Zj (l : List Fc) (f : Fc) : ∃ t, qw l f = l ++ t := by
 unfold qw;split
 ·exact ⟨[], by simp⟩
 ·exact ⟨[f], rfl⟩
theorem vK {l : List Fc} (f : Fc) (h : l.Nodup) : (qw l f).Nodup := by
 unfold qw;split
 ·exact h
 ·rename_i hn;rw [List.nodup_append];refine ⟨h, by simp, ?_⟩;intro a ha b hb e;rw [List.mem_singleton] at hb;subst hb;exact hn (e ▸ ha)
theorem Q8 (ds : List Fc) : ∀ l : List Fc, ∃ t, ds.foldl qw l = l ++ t := by
 induction ds with
 | nil => exact fun l => ⟨[], by simp⟩
 | cons d ds ih =>
  intro l;obtain ⟨t, ht⟩ := Zj l d;obtain ⟨t', ht'⟩ := ih (qw l d);exact ⟨t ++ t', by rw [List.foldl_cons, ht', ht, List.append_assoc]⟩
theorem zw (ds : List Fc) : ∀ (l : List Fc) (g : Fc), g ∈ ds.foldl qw l ↔ g ∈ l ∨ g ∈ ds := by
 induction ds with
 | nil => intro l g; simp
 | cons d ds ih =>
  intro l g;rw [List.foldl_cons, ih, Z9, List.mem_cons, or_assoc]
theorem jI (ds : List Fc) : ∀ l : List Fc, l.Nodup → (ds.foldl qw l).Nodup := by
 induction ds with
 | nil => exact fun l h => h
 | cons d ds ih => exact fun l h => ih _ (vK d h)
def zv (l : List Fc) (c : Cr) : List Fc :=
 if c.f0 = 1 then [⟨c.f1, c.f2⟩]
 else if c.f0 = 2 then (l.filter fun x => decide (x.f0 = c.f3)).map fun x => ⟨c.f1, x.f1⟩
 else if c.f0 = 3 then (l.filter fun x => decide (x.f0 = c.f3)).flatMap fun x => (l.filter fun y => decide (y.f0 = ⟨x.f1, c.f4.f1⟩)).map fun y => ⟨c.f1, y.f1⟩
 else if c.f0 = 4 then ((l.filter fun x => decide (x.f0 = c.f3)).filter fun x => decide ((⟨c.f4, x.f1⟩ : Fc) ∈ l)).map fun x => ⟨c.f1, x.f1⟩
 else []
def qi (l : List Fc) (c : Cr) : List Fc := if cOk c = true then (zv l c).foldl qw l else l
theorem zK (l : List Fc) (a b c : Int) (h : l.length ≤ 1048576) : Ev (fun k => Gr.f k l a b c) (qw l ⟨⟨a, b⟩, c⟩) := by
 unfold Gr.f qw;refine Ev.bind (jb l a b c h) ?_;by_cases hb : (⟨⟨a, b⟩, c⟩ : Fc) ∈ l
 ·simp only [hb, decide_true, ↓reduceIte];exact Ev.now _
 ·simp only [hb, decide_false, Bool.false_eq_true, ↓reduceIte, show l.length < 5864062014805 by omega];exact Ev.now _
theorem Q5 (x : Fc) (a b : Int) : (x.f0.f0 == a && x.f0.f1 == b) = decide (x.f0 = ⟨a, b⟩) := by
 obtain ⟨⟨p, q⟩, r⟩ := x;rw [Bool.eq_iff_iff];simp
theorem Zl (x : Fc) (a b : Int) : (!(x.f0.f0 == a) || !(x.f0.f1 == b)) = !decide (x.f0 = ⟨a, b⟩) := by
 rw [← Q5, Bool.not_and]
theorem ja (l : List Fc) (s0 : List Fc) (p a b w c d e f u n : Int) (hp : p = 2 ∨ p = 4) (h : l.length ≤ 1000) (hs : s0.length ≤ 1000) :
  Ev (fun k => Fd.l0 k l s0 0 p a b w c d e f u n)
   ((if p = 2 then (l.filter fun x => decide (x.f0 = ⟨c, d⟩)).map fun x => (⟨⟨a, b⟩, x.f1⟩ : Fc)
    else ((l.filter fun x => decide (x.f0 = ⟨c, d⟩)).filter fun x => decide ((⟨⟨e, f⟩, x.f1⟩ : Fc) ∈ l)).map fun x => ⟨⟨a, b⟩, x.f1⟩).foldl qw s0) := by
 have key := Ev.up l.length (fun i (s : List Fc) k => Fd.l0 k l s i p a b w c d e f u n)
  (fun i s => (if p = 2 then ((l.drop i).filter fun x => decide (x.f0 = ⟨c, d⟩)).map fun x => (⟨⟨a, b⟩, x.f1⟩ : Fc)
    else (((l.drop i).filter fun x => decide (x.f0 = ⟨c, d⟩)).filter fun x => decide ((⟨⟨e, f⟩, x.f1⟩ : Fc) ∈ l)).map fun x => ⟨⟨a, b⟩, x.f1⟩).foldl qw s)
  (fun i s => s.length ≤ 1000 + i) ?_ ?_ 0 s0 (Nat.zero_le _) (by omega)
 ·exact key
 ·intro i s hi hs ih;refine Ev.succ ?_;simp only [Fd.l0, qc, qe, hi, ↓reduceIte, rd_T28, qv _ hi, qm _ hi, uq_ i, Q5];rw [List.drop_eq_getElem_cons hi];by_cases h1 : l[i].f0 = ⟨c, d⟩
  ·simp only [h1, decide_true, ↓reduceIte, List.filter_cons_of_pos];rcases hp with rfl | rfl
   ·simp only [↓reduceIte, List.map_cons, List.foldl_cons];refine Ev.bind (zK s _ _ _ (by omega)) ?_;have := vN s (⟨⟨a, b⟩, l[i].f1⟩ : Fc);have h2 := ih (qw s ⟨⟨a, b⟩, l[i].f1⟩) (by omega);simpa using h2
   ·simp only [show ¬ ((4 : Int) = 2) by omega, ↓reduceIte];refine Ev.bind (jb l _ _ _ (by omega)) ?_;by_cases h3 : (⟨⟨e, f⟩, l[i].f1⟩ : Fc) ∈ l
    ·simp only [h3, decide_true, ↓reduceIte, List.filter_cons_of_pos, List.map_cons, List.foldl_cons];refine Ev.bind (zK s _ _ _ (by omega)) ?_;have := vN s (⟨⟨a, b⟩, l[i].f1⟩ : Fc);have h2 := ih (qw s ⟨⟨a, b⟩, l[i].f1⟩) (by omega);simpa using h2
    ·have h2 := ih s (by omega);simpa [h3] using h2
  ·have h2 := ih s (by omega);simp only [h1, decide_false, Bool.false_eq_true, ↓reduceIte, not_false_eq_true, List.filter_cons_of_neg];exact h2
 ·intro s _;refine Ev.succ ?_;simp only [Fd.l0, qc, Nat.lt_irrefl, ↓reduceIte, List.drop_length];simpa using Ev.now s
theorem QE (l : List Fc) (i0 : Nat) (p a b w c d e f u n : Int) (x y : Int) (h : l.length ≤ 1000) (B : Nat) (R : List Fc → List Fc)
  (fin : ∀ s : List Fc, s.length ≤ B + l.length → Ev (fun k => Fd.l1 k l s (wrap64 ((i0 : Int) + 1)) p a b w c d e f u n) (R s)) (hB : B ≤ 1001000) (s0 : List Fc) (hs : s0.length ≤ B) :
  Ev (fun k => Fd.l2 k l s0 i0 0 p a b w c d e f u n x y) (R (((l.filter fun z => decide (z.f0 = ⟨x, y⟩)).map fun z => (⟨⟨a, b⟩, z.f1⟩ : Fc)).foldl qw s0)) := by
 have key := Ev.up l.length (fun j (s : List Fc) k => Fd.l2 k l s i0 j p a b w c d e f u n x y)
  (fun j s => R ((((l.drop j).filter fun z => decide (z.f0 = ⟨x, y⟩)).map fun z => (⟨⟨a, b⟩, z.f1⟩ : Fc)).foldl qw s))
  (fun j s => s.length ≤ B + j) ?_ ?_ 0 s0 (Nat.zero_le _) (by omega)
 ·exact key
 ·intro j s hj hs ih;refine Ev.succ ?_;simp only [Fd.l2, qc, qe, hj, ↓reduceIte, rd_T28, qv _ hj, qm _ hj, uq_ j, Q5];rw [List.drop_eq_getElem_cons hj];by_cases h1 : l[j].f0 = ⟨x, y⟩
  ·simp only [h1, decide_true, ↓reduceIte, List.filter_cons_of_pos, List.map_cons, List.foldl_cons];refine Ev.bind (zK s _ _ _ (by omega)) ?_;have := vN s (⟨⟨a, b⟩, l[j].f1⟩ : Fc);exact ih (qw s ⟨⟨a, b⟩, l[j].f1⟩) (by omega)
  ·simp only [h1, decide_false, Bool.false_eq_true, ↓reduceIte, not_false_eq_true, List.filter_cons_of_neg];exact ih s (by omega)
 ·intro s hs;refine Ev.succ ?_;simp only [Fd.l2, qc, Nat.lt_irrefl, ↓reduceIte, List.drop_length];exact fin s hs
theorem QZ (l : List Fc) (s0 : List Fc) (p a b w c d e f u n : Int) (h : l.length ≤ 1000) (hs : s0.length ≤ 1000) :
  Ev (fun k => Fd.l1 k l s0 0 p a b w c d e f u n)
   (((l.filter fun x => decide (x.f0 = ⟨c, d⟩)).flatMap fun x => (l.filter fun y => decide (y.f0 = ⟨x.f1, f⟩)).map fun y => (⟨⟨a, b⟩, y.f1⟩ : Fc)).foldl qw s0) := by
 have key := Ev.up l.length (fun i (s : List Fc) k => Fd.l1 k l s i p a b w c d e f u n)
  (fun i s => ((((l.drop i).filter fun x => decide (x.f0 = ⟨c, d⟩)).flatMap fun x => (l.filter fun y => decide (y.f0 = ⟨x.f1, f⟩)).map fun y => (⟨⟨a, b⟩, y.f1⟩ : Fc)).foldl qw s))
  (fun i s => s.length ≤ 1000 + l.length * i) ?_ ?_ 0 s0 (Nat.zero_le _) (by omega)
 ·exact key
 ·intro i s hi hs ih;have hm : l.length * i ≤ 1000 * 1000 := Nat.mul_le_mul h (by omega);have hm2 : l.length * (i + 1) = l.length * i + l.length := Nat.mul_succ _ _;refine Ev.succ ?_;simp only [Fd.l1, qc, qe, hi, ↓reduceIte, rd_T28, qv _ hi, qm _ hi, uq_ i, Zl];rw [List.drop_eq_getElem_cons hi];by_cases h1 : l[i].f0 = ⟨c, d⟩
  ·simp only [h1, decide_true, Bool.not_true, Bool.false_eq_true, ↓reduceIte, List.filter_cons_of_pos, List.flatMap_cons, List.foldl_append];refine QE l i p a b w c d e f u n l[i].f1 f h (1000 + l.length * i) (fun t => (((l.drop (i + 1)).filter fun x => decide (x.f0 = ⟨c, d⟩)).flatMap fun x => (l.filter fun y => decide (y.f0 = ⟨x.f1, f⟩)).map fun y => (⟨⟨a, b⟩, y.f1⟩ : Fc)).foldl qw t) ?_ (by omega) s hs;intro t ht;rw [uq_ i];exact ih t (by omega)
  ·simp only [h1, decide_false, Bool.not_false, ↓reduceIte, Bool.false_eq_true, not_false_eq_true, List.filter_cons_of_neg];exact ih s (by omega)
 ·intro s _;refine Ev.succ ?_;simp only [Fd.l1, qc, Nat.lt_irrefl, ↓reduceIte, List.drop_length];simpa using Ev.now s
theorem qO {c : Cr} (h : cOk c = true) : c.f0 = 1 ∨ c.f0 = 2 ∨ c.f0 = 3 ∨ c.f0 = 4 := by
 unfold cOk ql at h;by_cases h1 : c.f0 = 1
 ·exact .inl h1
 ·by_cases h2 : c.f0 = 2
  ·exact .inr (.inl h2)
  ·by_cases h3 : c.f0 = 3
   ·exact .inr (.inr (.inl h3))
   ·by_cases h4 : c.f0 = 4
    ·exact .inr (.inr (.inr h4))
    ·simp [h1, h2, h3, h4] at h
theorem jw (l : List Fc) (c : Cr) (h : l.length ≤ 1000) :
  Ev (fun k => Fd.f k l c.f0 c.f1.f0 c.f1.f1 c.f2 c.f3.f0 c.f3.f1 c.f4.f0 c.f4.f1 c.f5 c.f6) (qi l c) := by
 unfold Fd.f qi;simp only [Option.bind_some, List.nil_append, List.length_nil, show 0 + l.length < 5864062014805 by omega, ↓reduceIte];refine Ev.bind (vm _ _ _ _ _ _ _ _ _ _) ?_;change Ev _ (if cOk c = true then (zv l c).foldl qw l else l);have e : ql c.f0 c.f1.f0 c.f1.f1 c.f2 c.f3.f0 c.f3.f1 c.f4.f0 c.f4.f1 c.f5 c.f6 = cOk c := rfl;rw [e];cases hc : cOk c
 ·simp only [Bool.false_eq_true, ↓reduceIte];exact Ev.now _
 ·simp only [↓reduceIte];unfold zv;rcases qO hc with h1 | h1 | h1 | h1
  ·simp only [h1, ↓reduceIte];refine Ev.bind (zK l _ _ _ (by omega)) ?_;exact Ev.now _
  ·simp only [h1, show ¬ ((2 : Int) = 1) by omega, ↓reduceIte];refine Ev.succ ?_;simp only [Fd.j0, beq_self_eq_true, ↓reduceIte];have := ja l l 2 c.f1.f0 c.f1.f1 c.f2 c.f3.f0 c.f3.f1 c.f4.f0 c.f4.f1 c.f5 c.f6 (.inl rfl) h h;simpa using this
  ·simp only [h1, show ¬ ((3 : Int) = 1) by omega, show ¬ ((3 : Int) = 2) by omega, ↓reduceIte];refine Ev.succ ?_;simp only [Fd.j0, show ((3 : Int) == 4) = false by rfl, Bool.false_eq_true, ↓reduceIte];exact QZ l l 3 c.f1.f0 c.f1.f1 c.f2 c.f3.f0 c.f3.f1 c.f4.f0 c.f4.f1 c.f5 c.f6 h h
  ·simp only [h1, show ¬ ((4 : Int) = 1) by omega, show ¬ ((4 : Int) = 2) by omega, show ¬ ((4 : Int) = 3) by omega, ↓reduceIte];refine Ev.succ ?_;simp only [Fd.j0, beq_self_eq_true, ↓reduceIte];have := ja l l 4 c.f1.f0 c.f1.f1 c.f2 c.f3.f0 c.f3.f1 c.f4.f0 c.f4.f1 c.f5 c.f6 (.inr rfl) h h;simpa using this
def qg (l : List Fc) : Prop := ∀ x ∈ l, fOk x = true
theorem jk {r : Rl} {w : Int} (h1 : qd r.f0 r.f1 = true) (h2 : inB w 0 5 = true) : fOk ⟨r, w⟩ = true := by unfold fOk; rw [h1, h2]; rfl
theorem Vq {c : Cr} (h : cOk c = true) : qd c.f1.f0 c.f1.f1 = true ∧ (c.f0 = 1 → inB c.f2 0 5 = true) ∧ inB c.f5 1 9999 = true := by
 unfold cOk ql at h;simp only [Bool.and_eq_true] at h;obtain ⟨⟨⟨h1, h2⟩, h3⟩, h4⟩ := h;refine ⟨h1, ?_, h2⟩;intro hk;rw [if_pos hk] at h4;simp only [Bool.and_eq_true] at h4;exact h4.1.1
theorem vI {l : List Fc} {c : Cr} (hl : qg l) (hc : cOk c = true) : qg (zv l c) := by
 obtain ⟨h1, h2, _⟩ := Vq hc;have hw : ∀ x ∈ l, inB x.f1 0 5 = true := fun x hx => by have := hl x hx; unfold fOk at this; simp only [Bool.and_eq_true] at this; exact this.2
 intro y hy;unfold zv at hy;rcases qO hc with hk | hk | hk | hk
 ·simp only [hk, ↓reduceIte, List.mem_singleton] at hy;subst hy;exact jk h1 (h2 hk)
 ·simp only [hk, show ¬ ((2 : Int) = 1) by omega, ↓reduceIte, List.mem_map, List.mem_filter] at hy;obtain ⟨x, ⟨hx, _⟩, rfl⟩ := hy;exact jk h1 (hw x hx)
 ·simp only [hk, show ¬ ((3 : Int) = 1) by omega, show ¬ ((3 : Int) = 2) by omega, ↓reduceIte, List.mem_flatMap, List.mem_map, List.mem_filter] at hy;obtain ⟨x, _, z, ⟨hz, _⟩, rfl⟩ := hy;exact jk h1 (hw z hz)
 ·simp only [hk, show ¬ ((4 : Int) = 1) by omega, show ¬ ((4 : Int) = 2) by omega, show ¬ ((4 : Int) = 3) by omega, ↓reduceIte, List.mem_map, List.mem_filter] at hy;obtain ⟨x, ⟨⟨hx, _⟩, _⟩, rfl⟩ := hy;exact jk h1 (hw x hx)
theorem qy {l : List Fc} (c : Cr) (hl : qg l) : qg (qi l c) := by
 unfold qi;cases hc : cOk c
 ·simpa using hl
 ·simp only [↓reduceIte];intro x hx;rcases (zw _ _ _).1 hx with h | h
  ·exact hl x h
  ·exact vI hl hc x h
theorem qH {l : List Fc} (c : Cr) (hl : l.Nodup) : (qi l c).Nodup := by
 unfold qi;split
 ·exact jI _ _ hl
 ·exact hl
theorem zb (l : List Fc) (c : Cr) : ∃ t, qi l c = l ++ t := by
 unfold qi;split
 ·exact Q8 _ _
 ·exact ⟨[], by simp⟩
theorem zy (l : List Fc) (c : Cr) : l.length ≤ (qi l c).length := by
 obtain ⟨t, h⟩ := zb l c;rw [h];simp
def qj (list : List Cr) (l : List Fc) : List Fc := list.foldl qi l
theorem qp (list : List Cr) : ∀ {l : List Fc}, qg l → qg (qj list l) := by
 induction list with
 | nil => exact fun h => h
 | cons c cs ih => exact fun h => ih (qy c h)
theorem qx (list : List Cr) : ∀ {l : List Fc}, l.Nodup → (qj list l).Nodup := by
 induction list with
 | nil => exact fun h => h
 | cons c cs ih => exact fun h => ih (qH c h)
theorem QB (list : List Cr) : ∀ (l : List Fc), l.length ≤ (qj list l).length := by
 induction list with
 | nil => exact fun l => Nat.le_refl _
 | cons c cs ih => exact fun l => Nat.le_trans (zy l c) (ih (qi l c))
def ZR : List Fc := (List.range 6).flatMap fun a => (List.range 4).flatMap fun b => (List.range 6).map fun (c : Nat) => (⟨⟨((a : Nat) : Int), ((b : Nat) : Int)⟩, (c : Int)⟩ : Fc)
theorem Zs : ZR.length = 144 := by decide +kernel
theorem Zh {x : Fc} (h : fOk x = true) : x ∈ ZR := by
 obtain ⟨⟨a, b⟩, c⟩ := x;unfold fOk qd inB at h;simp only [Bool.and_eq_true, decide_eq_true_eq] at h;obtain ⟨⟨⟨h1, h2⟩, h3, h4⟩, h5, h6⟩ := h;unfold ZR;simp only [List.mem_flatMap, List.mem_map, List.mem_range];refine ⟨a.toNat, by omega, b.toNat, by omega, c.toNat, by omega, ?_⟩;rw [Int.toNat_of_nonneg h1, Int.toNat_of_nonneg h3, Int.toNat_of_nonneg h5]
theorem jB {α : Type} [DecidableEq α] : ∀ (l u : List α), l.Nodup → (∀ x ∈ l, x ∈ u) → l.length ≤ u.length := by
 intro l;induction l with
 | nil => intro u _ _; simp
 | cons x xs ih =>
  intro u h1 h2;rw [List.nodup_cons] at h1;have hx := h2 x (by simp);have := ih (u.erase x) h1.2 (fun y hy => (List.mem_erase_of_ne (by rintro rfl; exact h1.1 hy)).2 (h2 y (by simp [hy])));rw [List.length_erase_of_mem hx] at this;have hp := List.length_pos_of_mem hx;rw [List.length_cons];omega
theorem qn {l : List Fc} (h1 : qg l) (h2 : l.Nodup) : l.length ≤ 144 := by
 rw [← Zs];exact jB l ZR h2 (fun x hx => Zh (h1 x hx))
def qC : Nat → List Cr → List Fc → List Fc
 | 0, _, l => l
 | n + 1, list, l => if l.length < (qj list l).length then qC n list (qj list l) else qj list l
def qb (list : List Cr) : List Fc := qC 145 list []
theorem jL (list : List Cr) : ∀ (n : Nat) {l : List Fc}, qg l → qg (qC n list l) := by
 intro n;induction n with
 | zero => exact fun h => h
 | succ n ih =>
  intro l h;unfold qC;split
  ·exact ih (qp list h)
  ·exact qp list h
theorem jW (list : List Cr) : ∀ (n : Nat) {l : List Fc}, l.Nodup → (qC n list l).Nodup := by
 intro n;induction n with
 | zero => exact fun h => h
 | succ n ih =>
  intro l h;unfold qC;split
  ·exact ih (qx list h)
  ·exact qx list h
theorem qA (list : List Cr) : qg (qb list) := jL list 145 (fun x hx => by simp at hx)
theorem qt (list : List Cr) : (qb list).Nodup := jW list 145 List.nodup_nil
theorem qr (list : List Cr) : (qb list).length ≤ 144 := qn (qA list) (qt list)
theorem QM (list : List Cr) (hl : list.length ≤ 1048576) (l : List Fc) (h1 : qg l) (h2 : l.Nodup) (R : List Fc → Bool → List Fc)
  (fin : Ev (fun k => Fy.l0 k list (qj list l) (decide (l.length < (qj list l).length))) (R (qj list l) (decide (l.length < (qj list l).length)))) :
  Ev (fun k => Fy.l1 k list l false 0) (R (qj list l) (decide (l.length < (qj list l).length))) := by
 have key := Ev.up list.length (fun i (s : List Fc × Bool) k => Fy.l1 k list s.1 s.2 i)
  (fun i s => R (qj list l) (decide (l.length < (qj list l).length)))
  (fun i s => qg s.1 ∧ s.1.Nodup ∧ l.length ≤ s.1.length ∧ s.2 = decide (l.length < s.1.length) ∧ qj (list.drop i) s.1 = qj list l) ?_ ?_ 0 (l, false) (Nat.zero_le _)
  ⟨h1, h2, Nat.le_refl _, by simp, by simp⟩
 ·exact key
 ·rintro i ⟨s, b⟩ hi ⟨q1, q2, q3, q4, q5⟩ ih;simp only at q1 q2 q3 q4 q5;have hs := qn q1 q2;refine Ev.succ ?_;simp only [Fy.l1, qc, qe, hi, ↓reduceIte, rd_T35, qv _ hi, qm _ hi, uq_ i];refine Ev.bind (jw s list[i] (by omega)) ?_;have hd : qj (list.drop (i + 1)) (qi s list[i]) = qj list l := by
   rw [← q5, List.drop_eq_getElem_cons hi];rfl
  have hle := zy s list[i];by_cases hg : s.length < (qi s list[i]).length
  ·simp only [hg, ↓reduceIte];exact ih (qi s list[i], true) ⟨qy _ q1, qH _ q2, by simp only; omega, by simp only; rw [decide_eq_true (by omega)], hd⟩
  ·simp only [hg, ↓reduceIte];refine ih (qi s list[i], b) ⟨qy _ q1, qH _ q2, by simp only; omega, ?_, hd⟩;rw [q4];congr 1;have : (qi s list[i]).length = s.length := by omega
   rw [this]
 ·rintro ⟨s, b⟩ ⟨q1, q2, q3, q4, q5⟩;simp only at q1 q2 q3 q4 q5;refine Ev.succ ?_;simp only [Fy.l1, qc, Nat.lt_irrefl, ↓reduceIte];have e : s = qj list l := by rw [← q5, List.drop_length]; rfl
  subst e;rw [q4];exact fin
theorem QQ (list : List Cr) (hl : list.length ≤ 1048576) : ∀ (n : Nat) (l : List Fc), qg l → l.Nodup → 145 ≤ n + l.length →
  Ev (fun k => Fy.l0 k list l true) (qC n list l) := by
 intro n;induction n with
 | zero =>
  intro l h1 h2 h3;have := qn h1 h2;omega
 | succ n ih =>
  intro l h1 h2 h3;refine Ev.succ ?_;simp only [Fy.l0, ↓reduceIte];unfold qC;have := QM list hl l h1 h2 (fun p b => if b = true then qC n list p else p) ?_
  ·by_cases hg : l.length < (qj list l).length
   ·simpa [hg] using this
   ·simpa [hg] using this
  ·by_cases hg : l.length < (qj list l).length
   ·simp only [hg, decide_true, ↓reduceIte];exact ih _ (qp list h1) (qx list h2) (by omega)
   ·simp only [hg, decide_false, Bool.false_eq_true, ↓reduceIte];refine Ev.succ ?_;simp only [Fy.l0, Bool.false_eq_true, ↓reduceIte];exact Ev.now _
theorem Qn (list : List Cr) (hl : list.length ≤ 1048576) : Ev (fun k => Fy.f k list) (qb list) := by
 unfold Fy.f;exact QQ list hl 145 [] (fun x hx => by simp at hx) List.nodup_nil (by simp)
abbrev Dv := S81
abbrev Fo := S75
theorem rdI {ws : List Int} {i : Nat} (h : i < ws.length) : rd ws (i : Int) = ws[i] := by simp [rd, h]
theorem ji (a b c : Int) : Gv.f a b c = some (fOk ⟨⟨a, b⟩, c⟩) := by
 unfold Gv.f fOk;simp only [zp, zB, Option.bind_some];cases qd a b <;> simp
def qB (r : Rl) : List Fc → Int → List Int
 | [], _ => []
 | x :: xs, i => if (decide (x.f0 = r) && fOk x) = true then i :: qB r xs (i + 1) else qB r xs (i + 1)
def qV (l : List Fc) (r : Rl) : List Int := qB r l 0
theorem jC (r : Rl) : ∀ (xs : List Fc) (n : Int), ∀ i ∈ qB r xs n, n ≤ i ∧ i < n + xs.length := by
 intro xs;induction xs with
 | nil => intro n i h; simp [qB] at h
 | cons x xs ih =>
  intro n i h;unfold qB at h;rw [List.length_cons];split at h
  ·rcases List.mem_cons.1 h with rfl | h
   ·omega
   ·have := ih (n + 1) i h; omega
  ·have := ih (n + 1) i h; omega
theorem vM {l : List Fc} {r : Rl} {i : Int} (h : i ∈ qV l r) : 0 ≤ i ∧ i < l.length := by
 have := jC r l 0 i h;omega
theorem Zb (r : Rl) : ∀ (xs : List Fc) (n : Int), (qB r xs n).length ≤ xs.length := by
 intro xs;induction xs with
 | nil => intro n; simp [qB]
 | cons x xs ih =>
  intro n;unfold qB;have := ih (n + 1);split <;> simp <;> omega
theorem vF (l : List Fc) (r : Rl) : (qV l r).length ≤ l.length := Zb r l 0
theorem Zg (r : Rl) (l : List Fc) : ∀ (xs pre : List Fc), l = pre ++ xs → (qB r xs pre.length).map (fun i => rd_T28 l i) = xs.filter fun x => decide (x.f0 = r) && fOk x := by
 intro xs;induction xs with
 | nil => intro pre h; rfl
 | cons x xs ih =>
  intro pre h;have := ih (pre ++ [x]) (by rw [h]; simp);simp only [List.length_append, List.length_singleton] at this;have e : rd_T28 l (pre.length : Int) = x := by
   unfold rd_T28;rw [h];simp
  unfold qB;have e2 : ((pre.length : Int) + 1) = ((pre.length + 1 : Nat) : Int) := by omega
  split
  ·rename_i hc;rw [List.filter_cons_of_pos (p := fun x => decide (x.f0 = r) && fOk x) hc, List.map_cons, e, e2, this]
  ·rename_i hc;rw [List.filter_cons_of_neg (p := fun x => decide (x.f0 = r) && fOk x) hc, e2, this]
theorem zN {l : List Fc} (hl : qg l) (r : Rl) : (qV l r).map (fun i => rd_T28 l i) = l.filter fun x => decide (x.f0 = r) := by
 have := Zg r l l [] rfl;simp only [List.length_nil] at this;unfold qV;rw [show ((0 : Int)) = ((0 : Nat) : Int) from rfl, this];exact List.filter_congr (fun x hx => by rw [hl x hx, Bool.and_true])
theorem zL (l : List Fc) (a b : Int) (h : l.length ≤ 1048576) : Ev (fun k => F8.f k l a b) (qV l ⟨a, b⟩) := by
 unfold F8.f;have key := Ev.up l.length (fun i (s : List Int) k => F8.l0 k s l l.length i a b) (fun i s => s ++ qB ⟨a, b⟩ (l.drop i) i) (fun i s => s.length ≤ i) ?_ ?_ 0 [] (Nat.zero_le _) (by simp)
 ·exact key
 ·intro i s hi hs ih;refine Ev.succ ?_;simp only [F8.l0, qc, qe, hi, ↓reduceIte, rd_T28, qv _ hi, qm _ hi, uq_ i, Q5, ji, Option.bind_some, show s.length < 17592186044416 by omega];rw [List.drop_eq_getElem_cons hi];unfold qB;by_cases h1 : l[i].f0 = ⟨a, b⟩
  ·simp only [h1, decide_true, ↓reduceIte, Bool.true_and];have e : fOk ⟨⟨l[i].f0.f0, l[i].f0.f1⟩, l[i].f1⟩ = fOk l[i] := rfl;rw [show ((⟨⟨a, b⟩, l[i].f1⟩ : Fc)) = l[i] from by rw [← h1]];cases h2 : fOk l[i]
   ·simp only [Bool.false_eq_true, ↓reduceIte];exact ih s (by omega)
   ·simp only [↓reduceIte];rw [VL s (i : Int) (qB _ _ _)];exact ih (s ++ [(i : Int)]) (by simp; omega)
  ·simp only [h1, decide_false, Bool.false_eq_true, ↓reduceIte, Bool.false_and];exact ih s (by omega)
 ·intro s _;refine Ev.succ ?_;simp only [F8.l0, qc, Nat.lt_irrefl, ↓reduceIte, List.drop_length];simpa [qB] using Ev.now s
def qf (l : List Fc) (c : Cr) : List Dv :=
 if c.f0 = 1 then [⟨⟨c.f1, c.f2⟩, []⟩]
 else if c.f0 = 2 then (qV l c.f3).map fun i => ⟨⟨c.f1, (rd_T28 l i).f1⟩, [i]⟩
 else if c.f0 = 3 then (qV l c.f3).flatMap fun i => (qV l ⟨(rd_T28 l i).f1, c.f4.f1⟩).map fun j => ⟨⟨c.f1, (rd_T28 l j).f1⟩, [i, j]⟩
 else if c.f0 = 4 then (qV l c.f3).flatMap fun i => if q8 (qz c.f4.f0 c.f4.f1 (rd_T28 l i).f1) l 0 ≥ 0 then [⟨⟨c.f1, (rd_T28 l i).f1⟩, [i, q8 (qz c.f4.f0 c.f4.f1 (rd_T28 l i).f1) l 0]⟩] else []
 else []
theorem Vx {α β : Type} (p : α → Prop) [DecidablePred p] (g : α → β) : ∀ xs : List α, (xs.flatMap fun x => if p x then [g x] else []) = (xs.filter fun x => decide (p x)).map g := by
 intro xs;induction xs with
 | nil => rfl
 | cons x xs ih =>
  rw [List.flatMap_cons, ih];by_cases h : p x
  ·simp [h]
  ·simp [h]
theorem zI {l : List Fc} (hl : qg l) (c : Cr) : (qf l c).map (·.f0) = zv l c := by
 unfold qf zv;split
 ·rfl
 ·split
  ·rw [← zN hl, List.map_map, List.map_map];rfl
  ·split
   ·rw [List.map_flatMap, ← zN hl c.f3, List.flatMap_map];congr 1;funext i;rw [List.map_map, ← zN hl, List.map_map];rfl
   ·split
    ·rw [List.map_flatMap];have e : (fun i => ((if q8 (qz c.f4.f0 c.f4.f1 (rd_T28 l i).f1) l 0 ≥ 0 then [(⟨⟨c.f1, (rd_T28 l i).f1⟩, [i, q8 (qz c.f4.f0 c.f4.f1 (rd_T28 l i).f1) l 0]⟩ : Dv)] else []).map (·.f0)))
       = fun i => if ((⟨c.f4, (rd_T28 l i).f1⟩ : Fc) ∈ l) then [(⟨c.f1, (rd_T28 l i).f1⟩ : Fc)] else [] := by
      funext i;have h := j9 (qz c.f4.f0 c.f4.f1 (rd_T28 l i).f1) l 0 (Int.le_refl _);rw [vD] at h;have h' : (q8 (qz c.f4.f0 c.f4.f1 (rd_T28 l i).f1) l 0 ≥ 0) ↔ ((⟨c.f4, (rd_T28 l i).f1⟩ : Fc) ∈ l) := by
       rw [← decide_eq_true_iff (p := q8 _ l 0 ≥ 0), h, decide_eq_true_iff]
      by_cases hm : (⟨c.f4, (rd_T28 l i).f1⟩ : Fc) ∈ l
      ·rw [if_pos hm, if_pos (h'.2 hm)]; rfl
      ·rw [if_neg hm, if_neg (fun q => hm (h'.1 q))]; rfl
     rw [e, ← zN hl c.f3];rw [← Vx (fun x : Fc => (⟨c.f4, x.f1⟩ : Fc) ∈ l) (fun x => (⟨c.f1, x.f1⟩ : Fc)), List.flatMap_map]
    ·rfl
theorem QD (l : List Fc) (ws : List Int) (hw : ∀ i ∈ ws, 0 ≤ i ∧ i < l.length) (p a b w c d e f u n : Int) (h : ws.length ≤ 1000) (s0 : List Dv) (hs : s0.length ≤ 1000) :
  Ev (fun k => Fi.l0 k l ws ws.length 0 p a b w c d e f u n s0) (s0 ++ ws.map fun i => ⟨⟨⟨a, b⟩, (rd_T28 l i).f1⟩, [i]⟩) := by
 have key := Ev.up ws.length (fun i (s : List Dv) k => Fi.l0 k l ws ws.length i p a b w c d e f u n s) (fun i s => s ++ (ws.drop i).map fun i => (⟨⟨⟨a, b⟩, (rd_T28 l i).f1⟩, [i]⟩ : Dv)) (fun i s => s.length ≤ 1000 + i) ?_ ?_ 0 s0 (Nat.zero_le _) (by omega)
 ·exact key
 ·intro i s hi hs ih;have hb := hw ws[i] (List.getElem_mem hi);refine Ev.succ ?_;simp only [Fi.l0, qc, qe, hi, ↓reduceIte, rdI hi, hb.1, hb.2, uq_ i, show s.length < 2932031007402 by omega];rw [List.drop_eq_getElem_cons hi, List.map_cons];have h2 := ih (s ++ [⟨⟨⟨a, b⟩, (rd_T28 l ws[i]).f1⟩, [ws[i]]⟩]) (by simp; omega);rw [List.append_assoc] at h2;exact h2
 ·intro s _;refine Ev.succ ?_;simp only [Fi.l0, qc, Nat.lt_irrefl, ↓reduceIte, List.drop_length, List.map_nil, List.append_nil];exact Ev.now s
theorem QS (l : List Fc) (ws vs : List Int) (i0 : Nat) (x : Int) (hv : ∀ i ∈ vs, 0 ≤ i ∧ i < l.length) (p a b w c d e f u n : Int) (h : vs.length ≤ 1000) (B : Nat) (hB : B ≤ 1001000) (R : List Dv → List Dv)
  (fin : ∀ s : List Dv, s.length ≤ B + vs.length → Ev (fun k => Fi.l1 k l ws ws.length (wrap64 ((i0 : Int) + 1)) p a b w c d e f u n s) (R s)) (s0 : List Dv) (hs : s0.length ≤ B) :
  Ev (fun k => Fi.l2 k l x ws ws.length i0 vs vs.length 0 p a b w c d e f u n s0) (R (s0 ++ vs.map fun j => ⟨⟨⟨a, b⟩, (rd_T28 l j).f1⟩, [x, j]⟩)) := by
 have key := Ev.up vs.length (fun j (s : List Dv) k => Fi.l2 k l x ws ws.length i0 vs vs.length j p a b w c d e f u n s) (fun j s => R (s ++ (vs.drop j).map fun j => (⟨⟨⟨a, b⟩, (rd_T28 l j).f1⟩, [x, j]⟩ : Dv))) (fun j s => s.length ≤ B + j) ?_ ?_ 0 s0 (Nat.zero_le _) (by omega)
 ·exact key
 ·intro j s hj hs ih;have hb := hv vs[j] (List.getElem_mem hj);refine Ev.succ ?_;simp only [Fi.l2, qc, qe, hj, ↓reduceIte, rdI hj, hb.1, hb.2, uq_ j, show s.length < 2932031007402 by omega];rw [List.drop_eq_getElem_cons hj, List.map_cons];have h2 := ih (s ++ [⟨⟨⟨a, b⟩, (rd_T28 l vs[j]).f1⟩, [x, vs[j]]⟩]) (by simp; omega);rw [List.append_assoc] at h2;exact h2
 ·intro s hs;refine Ev.succ ?_;simp only [Fi.l2, qc, Nat.lt_irrefl, ↓reduceIte, List.drop_length, List.map_nil, List.append_nil];exact fin s hs
theorem Ze (l : List Fc) (hl : l.length ≤ 1000) (ws : List Int) (hw : ∀ i ∈ ws, 0 ≤ i ∧ i < l.length) (p a b w c d e f u n : Int) (h : ws.length ≤ 1000) (s0 : List Dv) (hs : s0.length ≤ 1000) :
  Ev (fun k => Fi.l1 k l ws ws.length 0 p a b w c d e f u n s0) (s0 ++ ws.flatMap fun i => (qV l ⟨(rd_T28 l i).f1, f⟩).map fun j => ⟨⟨⟨a, b⟩, (rd_T28 l j).f1⟩, [i, j]⟩) := by
 have key := Ev.up ws.length (fun i (s : List Dv) k => Fi.l1 k l ws ws.length i p a b w c d e f u n s) (fun i s => s ++ (ws.drop i).flatMap fun i => (qV l ⟨(rd_T28 l i).f1, f⟩).map fun j => (⟨⟨⟨a, b⟩, (rd_T28 l j).f1⟩, [i, j]⟩ : Dv)) (fun i s => s.length ≤ 1000 + l.length * i) ?_ ?_ 0 s0 (Nat.zero_le _) (by omega)
 ·exact key
 ·intro i s hi hs ih;have hm : l.length * i ≤ 1000 * 1000 := Nat.mul_le_mul hl (by omega);have hm2 : l.length * (i + 1) = l.length * i + l.length := Nat.mul_succ _ _;have hb := hw ws[i] (List.getElem_mem hi);refine Ev.succ ?_;simp only [Fi.l1, qc, qe, hi, ↓reduceIte, rdI hi, hb.1, hb.2];refine Ev.bind (zL l _ _ (by omega)) ?_;have hwl := vF l ⟨(rd_T28 l ws[i]).f1, f⟩;rw [List.drop_eq_getElem_cons hi, List.flatMap_cons, ← List.append_assoc];refine QS l ws (qV l ⟨(rd_T28 l ws[i]).f1, f⟩) i ws[i] (fun j hj => vM hj) p a b w c d e f u n (by omega) (1000 + l.length * i) (by omega) (fun t => t ++ (ws.drop (i + 1)).flatMap fun i => (qV l ⟨(rd_T28 l i).f1, f⟩).map fun j => (⟨⟨⟨a, b⟩, (rd_T28 l j).f1⟩, [i, j]⟩ : Dv)) ?_ s hs;intro t ht;rw [uq_ i];exact ih t (by omega)
 ·intro s _;refine Ev.succ ?_;simp only [Fi.l1, qc, Nat.lt_irrefl, ↓reduceIte, List.drop_length, List.flatMap_nil, List.append_nil];exact Ev.now s
theorem Za (l : List Fc) (hl : l.length ≤ 1000) (ws : List Int) (hw : ∀ i ∈ ws, 0 ≤ i ∧ i < l.length) (p a b w c d e f u n : Int) (h : ws.length ≤ 1000) (s0 : List Dv) (hs : s0.length ≤ 1000) :
  Ev (fun k => Fi.l3 k l ws ws.length 0 p a b w c d e f u n s0) (s0 ++ ws.flatMap fun i => if q8 (qz e f (rd_T28 l i).f1) l 0 ≥ 0 then [(⟨⟨⟨a, b⟩, (rd_T28 l i).f1⟩, [i, q8 (qz e f (rd_T28 l i).f1) l 0]⟩ : Dv)] else []) := by
 have key := Ev.up ws.length (fun i (s : List Dv) k => Fi.l3 k l ws ws.length i p a b w c d e f u n s) (fun i s => s ++ (ws.drop i).flatMap fun i => if q8 (qz e f (rd_T28 l i).f1) l 0 ≥ 0 then [(⟨⟨⟨a, b⟩, (rd_T28 l i).f1⟩, [i, q8 (qz e f (rd_T28 l i).f1) l 0]⟩ : Dv)] else []) (fun i s => s.length ≤ 1000 + i) ?_ ?_ 0 s0 (Nat.zero_le _) (by omega)
 ·exact key
 ·intro i s hi hs ih;have hb := hw ws[i] (List.getElem_mem hi);refine Ev.succ ?_;simp only [Fi.l3, qc, qe, hi, ↓reduceIte, rdI hi, hb.1, hb.2];refine Ev.bind (vL l _ _ _ (by omega)) ?_;rw [List.drop_eq_getElem_cons hi, List.flatMap_cons, ← List.append_assoc];by_cases h1 : q8 (qz e f (rd_T28 l ws[i]).f1) l 0 ≥ 0
  ·simp only [h1, ↓reduceIte, uq_ i, show s.length < 2932031007402 by omega];refine ih _ ?_;simp;omega
  ·simp only [h1, ↓reduceIte, uq_ i, List.append_nil];exact ih _ (by omega)
 ·intro s _;refine Ev.succ ?_;simp only [Fi.l3, qc, Nat.lt_irrefl, ↓reduceIte, List.drop_length, List.flatMap_nil, List.append_nil];exact Ev.now s
theorem vC (l : List Fc) (hl : l.length ≤ 1000) (c : Cr) :
  Ev (fun k => Fi.f k l c.f0 c.f1.f0 c.f1.f1 c.f2 c.f3.f0 c.f3.f1 c.f4.f0 c.f4.f1 c.f5 c.f6) (qf l c) := by
 unfold Fi.f qf;simp only [Option.bind_some, List.nil_append, List.length_nil, show 0 < 2932031007402 by omega, ↓reduceIte];have hb : ∀ i ∈ qV l ⟨c.f3.f0, c.f3.f1⟩, 0 ≤ i ∧ i < l.length := fun i hi => vM hi;have hn := vF l ⟨c.f3.f0, c.f3.f1⟩;refine Ev.ite (fun h1 => ?_) (fun h1 => ?_)
 ·rw [if_pos h1];exact Ev.now _
 ·rw [if_neg h1];refine Ev.ite (fun h2 => ?_) (fun h2 => ?_)
  ·rw [if_pos h2];refine Ev.bind (zL l _ _ (by omega)) ?_;exact QD l _ hb _ _ _ _ _ _ _ _ _ _ (by omega) [] (by simp)
  ·rw [if_neg h2];refine Ev.ite (fun h3 => ?_) (fun h3 => ?_)
   ·rw [if_pos h3];refine Ev.bind (zL l _ _ (by omega)) ?_;exact Ze l hl _ hb _ _ _ _ _ _ _ _ _ _ (by omega) [] (by simp)
   ·rw [if_neg h3];refine Ev.ite (fun h4 => ?_) (fun h4 => ?_)
    ·rw [if_pos h4];refine Ev.bind (zL l _ _ (by omega)) ?_;exact Za l hl _ hb _ _ _ _ _ _ _ _ _ _ (by omega) [] (by simp)
    ·rw [if_neg h4];exact Ev.now _
def qP (k : Int) (s : List Fc × List Fo) (d : Dv) : List Fc × List Fo := if d.f0 ∈ s.1 then s else (s.1 ++ [d.f0], s.2 ++ [⟨d.f0, k, d.f1⟩])
theorem ZE (k : Int) (s : List Fc × List Fo) (d : Dv) : (qP k s d).1 = qw s.1 d.f0 := by unfold qP qw; split <;> rfl
def za (s : List Fc × List Fo) : Prop := s.2.map (·.f0) = s.1
theorem je {k : Int} {s : List Fc × List Fo} {d : Dv} (h : za s) : za (qP k s d) := by
 unfold qP;split
 ·exact h
 ·unfold za at h ⊢;simp [h]
theorem QU (k : Int) (ds : List Dv) : ∀ s : List Fc × List Fo, (ds.foldl (qP k) s).1 = (ds.map (·.f0)).foldl qw s.1 := by
 induction ds with
 | nil => intro s; rfl
 | cons d ds ih =>
  intro s;rw [List.foldl_cons, ih, ZE, List.map_cons, List.foldl_cons]
theorem Ql (k : Int) (ds : List Dv) : ∀ {s : List Fc × List Fo}, za s → za (ds.foldl (qP k) s) := by
 induction ds with
 | nil => exact fun h => h
 | cons d ds ih => exact fun h => ih (je h)
def qR (s : List Fc × List Fo) (c : Cr) (k : Int) : List Fc × List Fo := if cOk c = true then (qf s.1 c).foldl (qP k) s else s
theorem zX {s : List Fc × List Fo} (h : qg s.1) (c : Cr) (k : Int) : (qR s c k).1 = qi s.1 c := by
 unfold qR qi;split
 ·rw [QU, zI h]
 ·rfl
theorem vB {s : List Fc × List Fo} (h : za s) (c : Cr) (k : Int) : za (qR s c k) := by
 unfold qR;split
 ·exact Ql k _ h
 ·exact h
def qq : List Cr → Int → List Fc × List Fo → List Fc × List Fo
 | [], _, s => s
 | c :: cs, k, s => qq cs (k + 1) (qR s c k)
theorem zc (list : List Cr) : ∀ (k : Int) {s : List Fc × List Fo}, qg s.1 → (qq list k s).1 = qj list s.1 := by
 induction list with
 | nil => intro k s h; rfl
 | cons c cs ih =>
  intro k s h;unfold qq;rw [ih (k + 1) (by rw [zX h]; exact qy c h), zX h];rfl
theorem zF (list : List Cr) : ∀ (k : Int) {s : List Fc × List Fo}, za s → za (qq list k s) := by
 induction list with
 | nil => exact fun k s h => h
 | cons c cs ih => exact fun k s h => ih (k + 1) (vB h c k)
def zJ : Nat → List Cr → List Fc × List Fo → List Fc × List Fo
 | 0, _, s => s
 | n + 1, list, s => if s.1.length < (qq list 0 s).1.length then zJ n list (qq list 0 s) else qq list 0 s
def qX (list : List Cr) : List Fo := (zJ 145 list ([], [])).2
theorem QX (list : List Cr) : ∀ (n : Nat) {s : List Fc × List Fo}, qg s.1 → (zJ n list s).1 = qC n list s.1 := by
 intro n;induction n with
 | zero => exact fun _ => rfl
 | succ n ih =>
  intro s h;unfold zJ qC;rw [zc list 0 h];split
  ·rw [ih (by rw [zc list 0 h]; exact qp list h), zc list 0 h]
  ·rw [zc list 0 h]
theorem Qp (list : List Cr) : ∀ (n : Nat) {s : List Fc × List Fo}, za s → za (zJ n list s) := by
 intro n;induction n with
 | zero => exact fun h => h
 | succ n ih =>
  intro s h;unfold zJ;split
  ·exact ih (zF list 0 h)
  ·exact zF list 0 h
theorem z7 : qg ([] : List Fc) := fun x hx => by simp at hx
theorem zQ (list : List Cr) : (qX list).map (·.f0) = qb list := by
 have h := Qp list 145 (s := ([], [])) (by unfold za; rfl);unfold za at h;unfold qX qb;rw [h, QX list 145 z7]
theorem Qb (l : List Fc) (h : l.length ≤ 1000) : Gs.f l = some l := by
 unfold Gs.f;rw [if_pos (by omega)]
theorem jv (list : List Cr) (bf : Int) (i0 : Nat) (ds : List Dv) (hd : ds.length ≤ 1002000) (R : List Fc × List Fo → List Fo)
  (s0 : List Fc × List Fo) (h1 : qg s0.1) (h2 : s0.1.Nodup) (h4 : za s0) (hds : ∀ d ∈ ds, fOk d.f0 = true)
  (fin : Ev (fun k => Fp.l1 k list (ds.foldl (qP i0) s0).1 (ds.foldl (qP i0) s0).2 bf list list.length (wrap64 ((i0 : Int) + 1))) (R (ds.foldl (qP i0) s0))) :
  Ev (fun k => Fp.l2 k list s0.1 s0.2 bf i0 list list.length i0 ds ds.length 0) (R (ds.foldl (qP i0) s0)) := by
 have key := Ev.up ds.length (fun j (s : List Fc × List Fo) k => Fp.l2 k list s.1 s.2 bf i0 list list.length i0 ds ds.length j)
  (fun j s => R (ds.foldl (qP i0) s0)) (fun j s => qg s.1 ∧ s.1.Nodup ∧ za s ∧ (ds.drop j).foldl (qP i0) s = ds.foldl (qP i0) s0) ?_ ?_ 0 s0 (Nat.zero_le _) ⟨h1, h2, h4, by simp⟩
 ·exact key
 ·rintro j ⟨s, o⟩ hj ⟨q1, q2, q4, q5⟩ ih;simp only at q1 q2 q4 q5;have hs := qn q1 q2;have ho : o.length ≤ 144 := by
   have : o.map (·.f0) = s := q4;have h := congrArg List.length this;rw [List.length_map] at h;omega
  have hd := hds ds[j] (List.getElem_mem hj);refine Ev.succ ?_;simp only [Fp.l2, qc, qe, hj, ↓reduceIte, rd_T81, qv _ hj, qm _ hj, uq_ j];refine Ev.bind (Zf s _ _ _ (by omega)) ?_;have e : (ds.drop (j + 1)).foldl (qP i0) (qP i0 (s, o) ds[j]) = ds.foldl (qP i0) s0 := by
   rw [← q5, List.drop_eq_getElem_cons hj];rfl
  change Ev (fun k => if decide (ds[j].f0 ∈ s) = true then _ else _) _;by_cases hm : ds[j].f0 ∈ s
  ·simp only [hm, decide_true, ↓reduceIte];have e1 : qP i0 (s, o) ds[j] = (s, o) := by unfold qP; rw [if_pos hm]
   rw [e1] at e;exact ih (s, o) ⟨q1, q2, q4, e⟩
  ·simp only [hm, decide_false, Bool.false_eq_true, ↓reduceIte, show s.length < 5864062014805 by omega, show o.length < 2513169434916 by omega];have e1 : qP i0 (s, o) ds[j] = (s ++ [ds[j].f0], o ++ [⟨ds[j].f0, i0, ds[j].f1⟩]) := by unfold qP; rw [if_neg hm]
   rw [e1] at e;refine ih (s ++ [ds[j].f0], o ++ [⟨ds[j].f0, i0, ds[j].f1⟩]) ⟨?_, ?_, ?_, e⟩
   ·intro x hx;rcases List.mem_append.1 hx with hx | hx
    ·exact q1 x hx
    ·rw [List.mem_singleton.1 hx]; exact hd
   ·have := vK ds[j].f0 q2;unfold qw at this;rw [if_neg hm] at this;exact this
   ·rw [← e1];exact je q4
 ·rintro ⟨s, o⟩ ⟨q1, q2, q4, q5⟩;simp only at q1 q2 q4 q5;rw [List.drop_length] at q5;refine Ev.succ ?_;simp only [Fp.l2, qc, Nat.lt_irrefl, ↓reduceIte];have : (s, o) = ds.foldl (qP i0) s0 := q5;rw [← this] at fin ⊢;exact fin
theorem zm (l : List Fc) (c : Cr) (h : l.length ≤ 1000) : (qf l c).length ≤ 1002000 := by
 have hn : ∀ r, (qV l r).length ≤ 1000 := fun r => Nat.le_trans (vF l r) h;have flat : ∀ (B : Nat) (xs : List Int) (g : Int → List Dv), (∀ i, (g i).length ≤ B) → (xs.flatMap g).length ≤ xs.length * B := by
  intro B xs g hg;induction xs with
  | nil => simp
  | cons x xs ih =>
   rw [List.flatMap_cons, List.length_append, List.length_cons, Nat.succ_mul];have := hg x;omega
 unfold qf;split
 ·simp
 ·split
  ·have := hn c.f3;rw [List.length_map];omega
  ·split
   ·have h1 := flat 1000 (qV l c.f3) (fun i => (qV l ⟨(rd_T28 l i).f1, c.f4.f1⟩).map fun j => ⟨⟨c.f1, (rd_T28 l j).f1⟩, [i, j]⟩) (fun i => by rw [List.length_map]; exact hn _);have h2 : (qV l c.f3).length * 1000 ≤ 1000 * 1000 := Nat.mul_le_mul_right _ (hn _);omega
   ·split
    ·have h1 := flat 1 (qV l c.f3) (fun i => if q8 (qz c.f4.f0 c.f4.f1 (rd_T28 l i).f1) l 0 ≥ 0 then [⟨⟨c.f1, (rd_T28 l i).f1⟩, [i, q8 (qz c.f4.f0 c.f4.f1 (rd_T28 l i).f1) l 0]⟩] else []) (fun i => by split <;> simp)
     have h2 := hn c.f3;omega
    ·simp
theorem jU (list : List Cr) (hl : list.length ≤ 1048576) (bf : Int) (s0 : List Fc × List Fo) (h1 : qg s0.1) (h2 : s0.1.Nodup) (h4 : za s0) (R : List Fc × List Fo → List Fo)
  (fin : Ev (fun k => Fp.l0 k list (qq list 0 s0).1 (qq list 0 s0).2 bf) (R (qq list 0 s0))) :
  Ev (fun k => Fp.l1 k list s0.1 s0.2 bf list list.length 0) (R (qq list 0 s0)) := by
 have key := Ev.up list.length (fun i (s : List Fc × List Fo) k => Fp.l1 k list s.1 s.2 bf list list.length i)
  (fun i s => R (qq list 0 s0)) (fun i s => qg s.1 ∧ s.1.Nodup ∧ za s ∧ qq (list.drop i) i s = qq list 0 s0) ?_ ?_ 0 s0 (Nat.zero_le _) ⟨h1, h2, h4, by simp⟩
 ·exact key
 ·rintro i ⟨s, o⟩ hi ⟨q1, q2, q4, q5⟩ ih;simp only at q1 q2 q4 q5;have hs := qn q1 q2;refine Ev.succ ?_;simp only [Fp.l1, qc, qe, hi, ↓reduceIte, rd_T35, qv _ hi, qm _ hi];refine Ev.bind (qU _ _ _ _ _ _ _ _ _ _) ?_;change Ev (fun k => if cOk list[i] = true then _ else _) _;have e : qq (list.drop (i + 1)) ((i + 1 : Nat) : Int) (qR (s, o) list[i] i) = qq list 0 s0 := by
   rw [← q5, List.drop_eq_getElem_cons hi];rfl
  have g1 : (qR (s, o) list[i] i).1 = qi s list[i] := zX q1 list[i] i;have g2 : qg (qR (s, o) list[i] i).1 := by rw [g1]; exact qy _ q1
  have g3 : (qR (s, o) list[i] i).1.Nodup := by rw [g1]; exact qH _ q2
  have g4 : za (qR (s, o) list[i] i) := vB q4 _ _;have hh := ih _ ⟨g2, g3, g4, e⟩;cases hc : cOk list[i]
  ·have e1 : qR (s, o) list[i] i = (s, o) := by unfold qR; rw [hc]; rfl
   rw [e1] at hh;simp only [Bool.false_eq_true, ↓reduceIte, uq_ i];exact hh
  ·have e1 : qR (s, o) list[i] i = (qf s list[i]).foldl (qP i) (s, o) := by unfold qR; rw [hc]; rfl
   rw [e1] at hh;simp only [↓reduceIte, Qb s (by omega), Option.bind_some];refine Ev.bind (vC s (by omega) list[i]) ?_;refine jv list bf i (qf s list[i]) (zm _ _ (by omega)) (fun _ => R (qq list 0 s0)) (s, o) q1 q2 q4 ?_ ?_
   ·intro d hd;have := vI q1 hc d.f0 (by rw [← zI q1]; exact List.mem_map.2 ⟨d, hd, rfl⟩);exact this
   ·rw [uq_ i];exact hh
 ·rintro ⟨s, o⟩ ⟨q1, q2, q4, q5⟩;simp only at q1 q2 q4 q5;refine Ev.succ ?_;simp only [Fp.l1, qc, Nat.lt_irrefl, ↓reduceIte];rw [List.drop_length] at q5;have : (s, o) = qq list 0 s0 := q5;rw [← this] at fin ⊢;exact fin
theorem jM (list : List Cr) (hl : list.length ≤ 1048576) : ∀ (n : Nat) (s : List Fc × List Fo) (bf : Int), qg s.1 → s.1.Nodup → za s → 145 ≤ n + s.1.length → bf < s.1.length →
  Ev (fun k => Fp.l0 k list s.1 s.2 bf) (zJ n list s).2 := by
 intro n;induction n with
 | zero =>
  intro s bf h1 h2 h4 h5 h6;have := qn h1 h2;omega
 | succ n ih =>
  intro s bf h1 h2 h4 h5 h6;have hp : (qq list 0 s).1 = qj list s.1 := zc list 0 h1;have p1 : qg (qq list 0 s).1 := by rw [hp]; exact qp list h1
  have p2 : (qq list 0 s).1.Nodup := by rw [hp]; exact qx list h2
  have p4 := zF list 0 h4;refine Ev.succ ?_;simp only [Fp.l0, h6, ↓reduceIte];unfold zJ;refine jU list hl _ s h1 h2 h4 (fun t => (if s.1.length < t.1.length then zJ n list t else t).2) ?_;by_cases hg : s.1.length < (qq list 0 s).1.length
  ·rw [if_pos hg];exact ih (qq list 0 s) _ p1 p2 p4 (by omega) (by omega)
  ·rw [if_neg hg];refine Ev.succ ?_;simp only [Fp.l0, qc, hg, ↓reduceIte];exact Ev.now _
theorem Qc (list : List Cr) (hl : list.length ≤ 1048576) : Ev (fun k => Fp.f k list) (qX list) := by
 unfold Fp.f qX;exact jM list hl 145 ([], []) (-1) z7 List.nodup_nil (by unfold za; rfl) (by simp) (by simp)
theorem zG (list : List Cr) (hl : list.length ≤ 1048576) : Ev (fun k => Ge.f k list) (qb list) := by
 unfold Ge.f;refine Ev.bind (Qc list hl) ?_;have hn : (qX list).length ≤ 144 := by
  have := congrArg List.length (zQ list);rw [List.length_map] at this;have := qr list;omega
 rw [← zQ list];have key := Ev.up (qX list).length (fun i (s : List Fc) k => Ge.l0 k s (qX list) (qX list).length i) (fun i s => s ++ ((qX list).drop i).map (·.f0)) (fun i s => s.length ≤ i) ?_ ?_ 0 [] (Nat.zero_le _) (by simp)
 ·exact key
 ·intro i s hi hs ih;refine Ev.succ ?_;simp only [Ge.l0, qc, qe, hi, ↓reduceIte, rd_T75, qv _ hi, qm _ hi, uq_ i, show s.length < 5864062014805 by omega];rw [List.drop_eq_getElem_cons hi, List.map_cons];have h2 := ih (s ++ [(qX list)[i].f0]) (by simp; omega);rw [List.append_assoc] at h2;exact h2
 ·intro s _;refine Ev.succ ?_;simp only [Ge.l0, qc, Nat.lt_irrefl, ↓reduceIte, List.drop_length, List.map_nil, List.append_nil];exact Ev.now s
def V3 (now : Int) (l : List Cr) : List Cr := l.filter fun c => cOk c && decide (c.f5 ≥ now)
def VP (l : List Cr) (r : Rl) (w : Int) : Bool := decide ((⟨r, w⟩ : Fc) ∈ qb l)
def Zo (l : List Cr) (r : Rl) (w now : Int) : Bool := VP (V3 now l) r w
end Q
end Go.Proofs.Ytljhfomkakhflaa

namespace Go.Proofs.Ytljhfomkakhflaa
open Go.RowKit Go.Proofs.YtljhfomkakhflaaW.PrintWords Go.Proofs.YtljhfomkakhflaaW.PrintLast Go.Proofs.YtljhfomkakhflaaW.PrintMore Go.Proofs.Ytljhfomkakhflaa.PA
set_option linter.unusedVariables false
set_option linter.unusedSimpArgs false
namespace Q
inductive Der (list : List Cr) : Fc → Prop
 | mem (c : Cr) (h : c ∈ list) (ok : cOk c = true) (hk : c.f0 = 1) : Der list ⟨c.f1, c.f2⟩
 | frm (c : Cr) (h : c ∈ list) (ok : cOk c = true) (hk : c.f0 = 2) (w : Int) (d : Der list ⟨c.f3, w⟩) : Der list ⟨c.f1, w⟩
 | lnk (c : Cr) (h : c ∈ list) (ok : cOk c = true) (hk : c.f0 = 3) (x w : Int) (d1 : Der list ⟨c.f3, x⟩) (d2 : Der list ⟨⟨x, c.f4.f1⟩, w⟩) : Der list ⟨c.f1, w⟩
 | bth (c : Cr) (h : c ∈ list) (ok : cOk c = true) (hk : c.f0 = 4) (w : Int) (d1 : Der list ⟨c.f3, w⟩) (d2 : Der list ⟨c.f4, w⟩) : Der list ⟨c.f1, w⟩
theorem Der.more {l l' : List Cr} (h : ∀ c ∈ l, cOk c = true → c ∈ l') {f : Fc} (d : Der l f) : Der l' f := by
 induction d with
 | mem c hc ok hk => exact .mem c (h c hc ok) ok hk
 | frm c hc ok hk w _ ih => exact .frm c (h c hc ok) ok hk w ih
 | lnk c hc ok hk x w _ _ ih1 ih2 => exact .lnk c (h c hc ok) ok hk x w ih1 ih2
 | bth c hc ok hk w _ _ ih1 ih2 => exact .bth c (h c hc ok) ok hk w ih1 ih2
theorem zj {x : Fc} {r : Rl} (h : x.f0 = r) : x = ⟨r, x.f1⟩ := by rw [← h]
theorem ZF {list : List Cr} {l : List Fc} (hl : ∀ x ∈ l, Der list x) {c : Cr} (hc : c ∈ list) (ok : cOk c = true) : ∀ x ∈ zv l c, Der list x := by
 intro y hy;unfold zv at hy;rcases qO ok with hk | hk | hk | hk
 ·simp only [hk, ↓reduceIte, List.mem_singleton] at hy;subst hy;exact .mem c hc ok hk
 ·simp only [hk, show ¬ ((2 : Int) = 1) by omega, ↓reduceIte, List.mem_map, List.mem_filter, decide_eq_true_eq] at hy;obtain ⟨x, ⟨hx, e⟩, rfl⟩ := hy;exact .frm c hc ok hk x.f1 (zj e ▸ hl x hx)
 ·simp only [hk, show ¬ ((3 : Int) = 1) by omega, show ¬ ((3 : Int) = 2) by omega, ↓reduceIte, List.mem_flatMap, List.mem_map, List.mem_filter, decide_eq_true_eq] at hy;obtain ⟨x, ⟨hx, e⟩, z, ⟨hz, e2⟩, rfl⟩ := hy;exact .lnk c hc ok hk x.f1 z.f1 (zj e ▸ hl x hx) (zj e2 ▸ hl z hz)
 ·simp only [hk, show ¬ ((4 : Int) = 1) by omega, show ¬ ((4 : Int) = 2) by omega, show ¬ ((4 : Int) = 3) by omega, ↓reduceIte, List.mem_map, List.mem_filter, decide_eq_true_eq] at hy;obtain ⟨x, ⟨⟨hx, e⟩, h2⟩, rfl⟩ := hy;exact .bth c hc ok hk x.f1 (zj e ▸ hl x hx) (hl _ h2)
theorem vW {list : List Cr} : ∀ (cs : List Cr), (∀ c ∈ cs, c ∈ list) → ∀ {l : List Fc}, (∀ x ∈ l, Der list x) → ∀ x ∈ qj cs l, Der list x := by
 intro cs;induction cs with
 | nil => exact fun _ _ h => h
 | cons c cs ih =>
  intro hs l hl;refine ih (fun d hd => hs d (by simp [hd])) ?_;intro x hx;unfold qi at hx;split at hx
  ·rename_i ok;rcases (zw _ _ _).1 hx with h | h
   ·exact hl x h
   ·exact ZF hl (hs c (by simp)) ok x h
  ·exact hl x hx
theorem QL {list : List Cr} : ∀ (n : Nat) {l : List Fc}, (∀ x ∈ l, Der list x) → ∀ x ∈ qC n list l, Der list x := by
 intro n;induction n with
 | zero => exact fun h => h
 | succ n ih =>
  intro l h;unfold qC;split
  ·exact ih (vW list (fun _ h => h) h)
  ·exact vW list (fun _ h => h) h
theorem QA (cs : List Cr) : ∀ l : List Fc, ∃ t, qj cs l = l ++ t := by
 induction cs with
 | nil => exact fun l => ⟨[], by simp [qj]⟩
 | cons c cs ih =>
  intro l;obtain ⟨t, ht⟩ := zb l c;obtain ⟨t', ht'⟩ := ih (qi l c);refine ⟨t ++ t', ?_⟩;show qj cs (qi l c) = _;rw [ht', ht, List.append_assoc]
theorem Zz {l t : List Fc} (h : (l ++ t).length ≤ l.length) : l ++ t = l := by
 have : t = [] := by
  rw [List.length_append] at h;exact List.length_eq_zero_iff.1 (by omega)
 rw [this, List.append_nil]
theorem QF {cs : List Cr} : ∀ {l : List Fc}, (qj cs l).length ≤ l.length → ∀ c ∈ cs, qi l c = l := by
 induction cs with
 | nil => intro l _ c hc; simp at hc
 | cons c cs ih =>
  intro l h d hd;have h' : (qj cs (qi l c)).length ≤ l.length := h;have h1 := zy l c;have h2 := QB cs (qi l c);obtain ⟨t, ht⟩ := zb l c;have e : qi l c = l := by rw [ht]; exact Zz (by rw [← ht]; omega)
  rcases List.mem_cons.1 hd with rfl | hd
  ·exact e
  ·rw [e] at h';exact ih h' d hd
theorem QI (list : List Cr) : ∀ (n : Nat) {l : List Fc}, qg l → l.Nodup → 145 ≤ n + l.length → (qj list (qC n list l)).length ≤ (qC n list l).length := by
 intro n;induction n with
 | zero =>
  intro l h1 h2 h3;have := qn h1 h2;omega
 | succ n ih =>
  intro l h1 h2 h3;unfold qC;split
  ·rename_i hg;exact ih (qp list h1) (qx list h2) (by omega)
  ·rename_i hg;obtain ⟨t, ht⟩ := QA list l;have e : qj list l = l := by rw [ht]; exact Zz (by rw [← ht]; omega)
   rw [e, e];omega
theorem qF (list : List Cr) {c : Cr} (hc : c ∈ list) (ok : cOk c = true) : ∀ x ∈ zv (qb list) c, x ∈ qb list := by
 have h := QF (QI list 145 z7 List.nodup_nil (by simp)) c hc;intro x hx;have e : qi (qb list) c = qb list := h;unfold qi at e;rw [if_pos ok] at e;rw [← e];exact (zw _ _ _).2 (.inr hx)
theorem qk {list : List Cr} {f : Fc} : f ∈ qb list ↔ Der list f := by
 constructor
 ·exact fun h => QL 145 (fun x hx => by simp at hx) f h
 ·intro d;induction d with
  | mem c hc ok hk => exact qF list hc ok _ (by unfold zv; simp [hk])
  | frm c hc ok hk w _ ih =>
   refine qF list hc ok _ ?_;unfold zv;simp only [hk, show ¬ ((2 : Int) = 1) by omega, ↓reduceIte, List.mem_map, List.mem_filter, decide_eq_true_eq];exact ⟨⟨c.f3, w⟩, ⟨ih, rfl⟩, rfl⟩
  | lnk c hc ok hk x w _ _ ih1 ih2 =>
   refine qF list hc ok _ ?_;unfold zv;simp only [hk, show ¬ ((3 : Int) = 1) by omega, show ¬ ((3 : Int) = 2) by omega, ↓reduceIte, List.mem_flatMap, List.mem_map, List.mem_filter, decide_eq_true_eq];exact ⟨⟨c.f3, x⟩, ⟨ih1, rfl⟩, ⟨⟨x, c.f4.f1⟩, w⟩, ⟨ih2, rfl⟩, rfl⟩
  | bth c hc ok hk w _ _ ih1 ih2 =>
   refine qF list hc ok _ ?_;unfold zv;simp only [hk, show ¬ ((4 : Int) = 1) by omega, show ¬ ((4 : Int) = 2) by omega, show ¬ ((4 : Int) = 3) by omega, ↓reduceIte, List.mem_map, List.mem_filter, decide_eq_true_eq];exact ⟨⟨c.f3, w⟩, ⟨⟨ih1, rfl⟩, ih2⟩, rfl⟩
theorem Der.some {l : List Cr} {f : Fc} (d : Der l f) : ∃ c ∈ l, cOk c = true := by
 cases d with
 | mem c hc ok hk => exact ⟨c, hc, ok⟩
 | frm c hc ok hk w _ => exact ⟨c, hc, ok⟩
 | lnk c hc ok hk x w _ _ => exact ⟨c, hc, ok⟩
 | bth c hc ok hk w _ _ => exact ⟨c, hc, ok⟩
def Qa (l : List Cr) (r : Rl) (w L : Int) : Prop := 0 ≤ L ∧ (L = 0 ∨ Zo l r w L = true) ∧ ∀ d, L < d → Zo l r w d = false
theorem Qa.one {l : List Cr} {r : Rl} {w L L' : Int} (h : Qa l r w L) (h' : Qa l r w L') : L = L' := by
 obtain ⟨h1, h2, h3⟩ := h;obtain ⟨h4, h5, h6⟩ := h';rcases Int.lt_trichotomy L L' with q | q | q
 ·rcases h5 with h5 | h5
  ·omega
  ·rw [h3 L' q] at h5; cases h5
 ·exact q
 ·rcases h2 with h2 | h2
  ·omega
  ·rw [h6 L q] at h2; cases h2
end Q
end Go.Proofs.Ytljhfomkakhflaa

namespace Go.Proofs.Ytljhfomkakhflaa
open Go.RowKit Go.Proofs.YtljhfomkakhflaaW.PrintWords Go.Proofs.YtljhfomkakhflaaW.PrintLast Go.Proofs.YtljhfomkakhflaaW.PrintMore Go.Proofs.Ytljhfomkakhflaa.PA
set_option linter.unusedVariables false
set_option linter.unusedSimpArgs false
namespace Q
theorem Ev.upE {σ ρ : Type} (n : Nat) (F : Nat → σ → Nat → Option ρ) (P : ρ → Prop) (Inv : Nat → σ → Prop)
  (step : ∀ i s, i < n → Inv i s → (∀ s', Inv (i + 1) s' → ∃ r, Ev (F (i + 1) s') r ∧ P r) → ∃ r, Ev (F i s) r ∧ P r)
  (fin : ∀ s, Inv n s → ∃ r, Ev (F n s) r ∧ P r) : ∀ i s, i ≤ n → Inv i s → ∃ r, Ev (F i s) r ∧ P r := by
 have key : ∀ d i s, n - i = d → i ≤ n → Inv i s → ∃ r, Ev (F i s) r ∧ P r := by
  intro d;induction d with
  | zero =>
   intro i s h1 h2 h3;obtain rfl : i = n := by omega
   exact fin s h3
  | succ d ih => exact fun i s h1 h2 h3 => step i s (by omega) h3 (fun s' h => ih (i + 1) s' (by omega) (by omega) h)
 exact fun i s h h2 => key _ i s rfl h h2
theorem Ev.exsucc {ρ : Type} {g : Nat → Option ρ} {P : ρ → Prop} (h : ∃ r, Ev (fun k => g (k + 1)) r ∧ P r) : ∃ r, Ev g r ∧ P r := by
 obtain ⟨r, h1, h2⟩ := h;exact ⟨r, Ev.succ h1, h2⟩
theorem Ev.exbind {α ρ : Type} {g : Nat → Option α} {f : Nat → α → Option ρ} {a : α} {P : ρ → Prop} (h : Ev g a) (k : ∃ r, Ev (fun n => f n a) r ∧ P r) : ∃ r, Ev (fun n => (g n).bind (f n)) r ∧ P r := by
 obtain ⟨r, h1, h2⟩ := k;exact ⟨r, Ev.bind h h1, h2⟩
def zt (x : Int) : Int := if x > 1000000 then 1000000 else x
inductive Ach (list : List Cr) (F : List Fc) : Int → Int → Prop
 | mk (i : Int) (c : Cr) (hc : c ∈ list) (ok : cOk c = true) (d : Dv) (hd : d ∈ qf F c) (h0 : 0 ≤ i) (h1 : i < (F.length : Int)) (hf : rd_T28 F i = d.f0) (s : Int → Int) (hs : ∀ a ∈ d.f1, Ach list F a (s a)) : Ach list F i (zt (1 + (d.f1.map s).sum))
theorem Z5 {s : Int → Int} : ∀ l : List Int, (∀ a ∈ l, 0 ≤ s a) → 0 ≤ (l.map s).sum := by
 intro l;induction l with
 | nil => intro _; simp
 | cons a l ih =>
  intro h;have h1 := h a (List.mem_cons_self ..);have h2 := ih (fun b hb => h b (List.mem_cons_of_mem _ hb));rw [List.map_cons, List.sum_cons];omega
theorem jp {s s' : Int → Int} : ∀ l : List Int, (∀ a ∈ l, s a ≤ s' a) → (l.map s).sum ≤ (l.map s').sum := by
 intro l;induction l with
 | nil => intro _; simp
 | cons a l ih =>
  intro h;have h1 := h a (List.mem_cons_self ..);have h2 := ih (fun b hb => h b (List.mem_cons_of_mem _ hb));rw [List.map_cons, List.sum_cons, List.map_cons, List.sum_cons];omega
theorem jg {x y : Int} (h : x ≤ y) : zt x ≤ zt y := by unfold zt; split <;> split <;> omega
theorem vt {list : List Cr} {F : List Fc} {i t : Int} (h : Ach list F i t) : 1 ≤ t ∧ t ≤ 1000000 := by
 induction h with
 | mk i c hc ok d hd h0 h1 hf s hs ih =>
  have := Z5 (s := s) d.f1 (fun a ha => by have := (ih a ha).1; omega);unfold zt;split <;> omega
def szB (s : List Int) : List Int → Int → Int
 | [], n => zt n
 | a :: l, n => if rd s a > 1000000 then 1000001 else szB s l (n + rd s a)
theorem zH {s : List Int} : ∀ (l : List Int) (n : Int), (∀ a ∈ l, rd s a ≤ 1000000) → szB s l n = zt (n + (l.map (rd s)).sum) := by
 intro l;induction l with
 | nil => intro n _; simp [szB]
 | cons a l ih =>
  intro n h;have h1 := h a (List.mem_cons_self ..);unfold szB;rw [if_neg (by omega), ih _ (fun b hb => h b (List.mem_cons_of_mem _ hb)), List.map_cons, List.sum_cons];congr 1;omega
theorem Vc {s : List Int} : ∀ (l : List Int) (n : Int), (∃ a ∈ l, rd s a > 1000000) → szB s l n = 1000001 := by
 intro l;induction l with
 | nil => intro n h; obtain ⟨a, ha, _⟩ := h; simp at ha
 | cons a l ih =>
  intro n h;unfold szB;by_cases h1 : rd s a > 1000000
  ·rw [if_pos h1]
  ·rw [if_neg h1];obtain ⟨b, hb, h2⟩ := h;rcases List.mem_cons.1 hb with rfl | hb
   ·exact absurd h2 h1
   ·exact ih _ ⟨b, hb, h2⟩
theorem Qw {s : List Int} (l : List Int) : (szB s l 1 = 1000001 ∧ ∃ a ∈ l, rd s a > 1000000) ∨ ((∀ a ∈ l, rd s a ≤ 1000000) ∧ szB s l 1 = zt (1 + (l.map (rd s)).sum)) := by
 by_cases h : ∃ a ∈ l, rd s a > 1000000
 ·exact .inl ⟨Vc l 1 h, h⟩
 ·refine .inr ⟨fun a ha => ?_, zH l 1 (fun a ha => ?_)⟩
  ·exact Int.not_lt.1 (fun h' => h ⟨a, ha, h'⟩)
  ·exact Int.not_lt.1 (fun h' => h ⟨a, ha, h'⟩)
def qu (list : List Cr) (F : List Fc) (s : List Int) : Prop := s.length = F.length ∧ ∀ i : Nat, i < F.length → rd s i = 1000001 ∨ Ach list F i (rd s i)
def Sat (F : List Fc) (s : List Int) (d : Dv) : Prop := ∀ i : Nat, i < F.length → rd_T28 F i = d.f0 → rd s i ≤ szB s d.f1 1
def qN (list : List Cr) (F : List Fc) (s : List Int) : Prop := ∀ c ∈ list, cOk c = true → ∀ d ∈ qf F c, Sat F s d
theorem qD {list : List Cr} {F : List Fc} {s : List Int} (h : qu list F s) {a : Int} (h0 : 0 ≤ a) (h1 : a < (F.length : Int)) : 1 ≤ rd s a ∧ rd s a ≤ 1000001 := by
 obtain ⟨n, rfl⟩ := Int.eq_ofNat_of_zero_le h0;rcases h.2 n (by omega) with h2 | h2
 ·omega
 ·have := vt h2; omega
theorem vn {list : List Cr} {F : List Fc} {s : List Int} (hg : qu list F s) (hf : qN list F s) {i t : Int} (h : Ach list F i t) : rd s i ≤ t := by
 induction h with
 | mk i c hc ok d hd h0 h1 hfc s' hs ih =>
  have h2 : ∀ a ∈ d.f1, rd s a ≤ s' a := ih;have h3 : ∀ a ∈ d.f1, rd s a ≤ 1000000 := fun a ha => Int.le_trans (h2 a ha) (vt (hs a ha)).2;obtain ⟨n, rfl⟩ := Int.eq_ofNat_of_zero_le h0;refine Int.le_trans (hf c hc ok d hd n (by omega) hfc) ?_;rw [zH _ _ h3];exact jg (by have := jp d.f1 h2; omega)
theorem Zd {list : List Cr} {F : List Fc} {s : List Int} (hg : qu list F s) (hf : qN list F s) (hr : ∀ i : Nat, i < F.length → ∃ t, Ach list F i t) (i : Nat) (hi : i < F.length) : Ach list F i (rd s i) := by
 obtain ⟨t, ht⟩ := hr i hi;have h1 := vn hg hf ht;have h2 := vt ht;rcases hg.2 i hi with h | h
 ·omega
 ·exact h
theorem Q9 (r : Rl) : ∀ (xs : List Fc) (n i : Int), i ∈ qB r xs n ↔ ∃ j : Nat, ∃ h : j < xs.length, i = n + j ∧ (decide (xs[j].f0 = r) && fOk xs[j]) = true := by
 intro xs;induction xs with
 | nil => intro n i; simp [qB]
 | cons x xs ih =>
  intro n i;have hstep : (∃ j : Nat, ∃ h : j < (x :: xs).length, i = n + j ∧ (decide ((x :: xs)[j].f0 = r) && fOk (x :: xs)[j]) = true) ↔ (i = n ∧ (decide (x.f0 = r) && fOk x) = true) ∨ ∃ j : Nat, ∃ h : j < xs.length, i = n + 1 + j ∧ (decide (xs[j].f0 = r) && fOk xs[j]) = true := by
   constructor
   ·rintro ⟨j, h, e, hp⟩;cases j with
    | zero => exact .inl ⟨by omega, hp⟩
    | succ j => exact .inr ⟨j, by simpa using h, by omega, hp⟩
   ·rintro (⟨e, hp⟩ | ⟨j, h, e, hp⟩)
    ·exact ⟨0, by simp, by omega, hp⟩
    ·exact ⟨j + 1, by simpa using h, by omega, hp⟩
  rw [hstep];unfold qB;split
  ·rename_i hp;rw [List.mem_cons, ih];exact ⟨fun h => h.elim (fun e => .inl ⟨e, hp⟩) .inr, fun h => h.elim (fun e => .inl e.1) .inr⟩
  ·rename_i hp;rw [ih];exact ⟨.inr, fun h => h.elim (fun e => absurd e.2 hp) id⟩
theorem rdF {l : List Fc} {j : Nat} (h : j < l.length) : rd_T28 l (j : Int) = l[j] := by unfold rd_T28; simp [h]
theorem qG {F : List Fc} (hR : qg F) {r : Rl} {i : Int} : i ∈ qV F r ↔ (0 ≤ i ∧ i < (F.length : Int)) ∧ (rd_T28 F i).f0 = r := by
 unfold qV;rw [Q9];constructor
 ·rintro ⟨j, h, e, hp⟩;rw [Int.zero_add] at e;subst e;rw [rdF h];rw [Bool.and_eq_true, decide_eq_true_eq] at hp;exact ⟨by omega, hp.1⟩
 ·rintro ⟨⟨h0, h1⟩, e⟩;obtain ⟨j, rfl⟩ := Int.eq_ofNat_of_zero_le h0;have hj : j < F.length := by omega
  rw [rdF hj] at e;exact ⟨j, hj, by omega, by rw [Bool.and_eq_true, decide_eq_true_eq]; exact ⟨e, hR _ (List.getElem_mem hj)⟩⟩
theorem Zn (p : Fc → Bool) : ∀ (l : List Fc) (n : Int), (q8 p l n = -1 ∧ ∀ x ∈ l, p x = false) ∨ ∃ j : Nat, ∃ h : j < l.length, q8 p l n = n + j ∧ p l[j] = true := by
 intro l;induction l with
 | nil => intro n; exact .inl ⟨rfl, fun x hx => by simp at hx⟩
 | cons x xs ih =>
  intro n;unfold q8;cases hp : p x
  ·rw [if_neg (by simp)];rcases ih (n + 1) with ⟨h1, h2⟩ | ⟨j, h, h1, h2⟩
   ·exact .inl ⟨h1, fun y hy => by rcases List.mem_cons.1 hy with rfl | hy; exact hp; exact h2 y hy⟩
   ·exact .inr ⟨j + 1, by simpa using h, by rw [h1]; omega, h2⟩
  ·rw [if_pos rfl];exact .inr ⟨0, by simp, by omega, hp⟩
def atF (F : List Fc) (r : Rl) (w : Int) : Int := q8 (qz r.f0 r.f1 w) F 0
theorem zf (F : List Fc) (r : Rl) (w : Int) : (atF F r w = -1 ∧ (⟨r, w⟩ : Fc) ∉ F) ∨ ((0 ≤ atF F r w ∧ atF F r w < (F.length : Int)) ∧ rd_T28 F (atF F r w) = ⟨r, w⟩) := by
 unfold atF;rcases Zn (qz r.f0 r.f1 w) F 0 with ⟨h1, h2⟩ | ⟨j, h, h1, h2⟩
 ·refine .inl ⟨h1, fun hm => ?_⟩;have h3 := h2 _ hm;rw [(zu r.f0 r.f1 w ⟨r, w⟩).2 rfl] at h3;cases h3
 ·rw [Int.zero_add] at h1;refine .inr ?_;rw [h1, rdF h];exact ⟨by omega, (zu _ _ _ _).1 h2⟩
theorem vS {F : List Fc} (hn : F.Nodup) {i j : Int} (hi : 0 ≤ i ∧ i < (F.length : Int)) (hj : 0 ≤ j ∧ j < (F.length : Int)) (h : rd_T28 F i = rd_T28 F j) : i = j := by
 obtain ⟨a, rfl⟩ := Int.eq_ofNat_of_zero_le hi.1;obtain ⟨b, rfl⟩ := Int.eq_ofNat_of_zero_le hj.1;have ha : a < F.length := by omega
 have hb : b < F.length := by omega
 rw [rdF ha, rdF hb] at h;have := (List.getElem_inj hn).1 h;omega
theorem Qk {F : List Fc} (hn : F.Nodup) {r : Rl} {w i : Int} (hi : 0 ≤ i ∧ i < (F.length : Int)) (h : rd_T28 F i = ⟨r, w⟩) : atF F r w = i := by
 rcases zf F r w with ⟨_, h2⟩ | ⟨h1, h2⟩
 ·obtain ⟨a, rfl⟩ := Int.eq_ofNat_of_zero_le hi.1;have ha : a < F.length := by omega
  rw [rdF ha] at h;exact absurd (h ▸ List.getElem_mem ha) h2
 ·exact vS hn h1 hi (h2.trans h.symm)
def Way (F : List Fc) (c : Cr) (f : Fc) (fr : List Int) : Prop := (⟨f, fr⟩ : Dv) ∈ qf F c
theorem Zt {F : List Fc} {c : Cr} (hk : c.f0 = 1) {f : Fc} {fr : List Int} : Way F c f fr ↔ f = ⟨c.f1, c.f2⟩ ∧ fr = [] := by
 unfold Way qf;rw [if_pos hk, List.mem_singleton];constructor
 ·intro h; injection h with h1 h2; exact ⟨h1, h2⟩
 ·rintro ⟨rfl, rfl⟩; rfl
theorem ZB {F : List Fc} (hR : qg F) {c : Cr} (hk : c.f0 = 2) {f : Fc} {fr : List Int} : Way F c f fr ↔ f.f0 = c.f1 ∧ ∃ a, (0 ≤ a ∧ a < (F.length : Int)) ∧ rd_T28 F a = ⟨c.f3, f.f1⟩ ∧ fr = [a] := by
 unfold Way qf;rw [if_neg (by omega), if_pos hk, List.mem_map];constructor
 ·rintro ⟨a, ha, e⟩;injection e with e1 e2;obtain ⟨h1, h2⟩ := (qG hR).1 ha;subst e1;exact ⟨rfl, a, h1, by rw [← h2], e2.symm⟩
 ·rintro ⟨e, a, h1, h2, rfl⟩;refine ⟨a, (qG hR).2 ⟨h1, by rw [h2]⟩, ?_⟩;rw [h2, ← e]
theorem Z0 {F : List Fc} (hR : qg F) {c : Cr} (hk : c.f0 = 3) {f : Fc} {fr : List Int} : Way F c f fr ↔ f.f0 = c.f1 ∧ ∃ a b, ((0 ≤ a ∧ a < (F.length : Int)) ∧ (rd_T28 F a).f0 = c.f3) ∧ ((0 ≤ b ∧ b < (F.length : Int)) ∧ rd_T28 F b = ⟨⟨(rd_T28 F a).f1, c.f4.f1⟩, f.f1⟩) ∧ fr = [a, b] := by
 unfold Way qf;rw [if_neg (by omega), if_neg (by omega), if_pos hk, List.mem_flatMap];constructor
 ·rintro ⟨a, ha, hm⟩;obtain ⟨b, hb, e⟩ := List.mem_map.1 hm;injection e with e1 e2;have h1 := (qG hR).1 ha;obtain ⟨h2, h3⟩ := (qG hR).1 hb;subst e1;exact ⟨rfl, a, b, h1, ⟨h2, by rw [← h3]⟩, e2.symm⟩
 ·rintro ⟨e, a, b, h1, ⟨h2, h3⟩, rfl⟩;refine ⟨a, (qG hR).2 h1, List.mem_map.2 ⟨b, (qG hR).2 ⟨h2, by rw [h3]⟩, ?_⟩⟩;rw [h3, ← e]
theorem Z3 {F : List Fc} (hR : qg F) (hn : F.Nodup) {c : Cr} (hk : c.f0 = 4) {f : Fc} {fr : List Int} : Way F c f fr ↔ f.f0 = c.f1 ∧ ∃ a b, ((0 ≤ a ∧ a < (F.length : Int)) ∧ rd_T28 F a = ⟨c.f3, f.f1⟩) ∧ ((0 ≤ b ∧ b < (F.length : Int)) ∧ rd_T28 F b = ⟨c.f4, f.f1⟩) ∧ fr = [a, b] := by
 unfold Way qf;rw [if_neg (by omega), if_neg (by omega), if_neg (by omega), if_pos hk, List.mem_flatMap];constructor
 ·rintro ⟨a, ha, hm⟩;have h1 := (qG hR).1 ha;have h2 := zf F c.f4 (rd_T28 F a).f1;unfold atF at h2;split at hm
  ·rename_i hp;rw [List.mem_singleton] at hm;injection hm with e1 e2;subst e1;rcases h2 with h2 | h2
   ·omega
   ·exact ⟨rfl, a, _, ⟨h1.1, by rw [← h1.2]⟩, h2, e2⟩
  ·simp at hm
 ·rintro ⟨e, a, b, ⟨h1, h2⟩, ⟨h3, h4⟩, rfl⟩;refine ⟨a, (qG hR).2 ⟨h1, by rw [h2]⟩, ?_⟩;have h5 := Qk hn h3 h4;unfold atF at h5;have e2 : (rd_T28 F a).f1 = f.f1 := by rw [h2]
  rw [e2, h5, if_pos (by omega), List.mem_singleton, ← e]
theorem jl {F : List Fc} (hR : qg F) (hn : F.Nodup) {c : Cr} (ok : cOk c = true) {f : Fc} {fr : List Int} (h : Way F c f fr) : fr.length ≤ 2 ∧ ∀ a ∈ fr, 0 ≤ a ∧ a < (F.length : Int) := by
 rcases qO ok with hk | hk | hk | hk
 ·obtain ⟨_, rfl⟩ := (Zt hk).1 h;exact ⟨by simp, fun a ha => by simp at ha⟩
 ·obtain ⟨_, a, h1, _, rfl⟩ := (ZB hR hk).1 h;exact ⟨by simp, fun b hb => by rw [List.mem_singleton.1 hb]; exact h1⟩
 ·obtain ⟨_, a, b, h1, h2, rfl⟩ := (Z0 hR hk).1 h;exact ⟨by simp, fun x hx => by rcases List.mem_cons.1 hx with rfl | hx; exact h1.1; rw [List.mem_singleton.1 hx]; exact h2.1⟩
 ·obtain ⟨_, a, b, h1, h2, rfl⟩ := (Z3 hR hn hk).1 h;exact ⟨by simp, fun x hx => by rcases List.mem_cons.1 hx with rfl | hx; exact h1.1; rw [List.mem_singleton.1 hx]; exact h2.1⟩
theorem zn {F : List Fc} {f : Fc} (h : f ∈ F) : ∃ i : Int, (0 ≤ i ∧ i < (F.length : Int)) ∧ rd_T28 F i = f := by
 obtain ⟨j, hj, e⟩ := List.getElem_of_mem h;exact ⟨j, by omega, by rw [rdF hj]; exact e⟩
theorem vr {list : List Cr} {F : List Fc} {c : Cr} (hc : c ∈ list) (ok : cOk c = true) {i : Int} (hi : 0 ≤ i ∧ i < (F.length : Int)) {fr : List Int} (hw : Way F c (rd_T28 F i) fr) (h : ∀ a ∈ fr, ∃ t, Ach list F a t) : ∃ t, Ach list F i t := by
 classical
 refine ⟨_, Ach.mk i c hc ok ⟨_, fr⟩ hw hi.1 hi.2 rfl (fun a => if h' : ∃ t, Ach list F a t then Classical.choose h' else 0) (fun a ha => ?_)⟩;have h' := h a ha;simp only [h', dif_pos];exact Classical.choose_spec h'
theorem QP (list : List Cr) : ∀ i : Nat, i < (qb list).length → ∃ t, Ach list (qb list) i t := by
 have hR := qA list;have hn := qt list;have key : ∀ f, Der list f → ∀ i : Int, (0 ≤ i ∧ i < ((qb list).length : Int)) → rd_T28 (qb list) i = f → ∃ t, Ach list (qb list) i t := by
  intro f d;induction d with
  | mem c hc ok hk => exact fun i hi e => vr hc ok hi (fr := []) ((Zt hk).2 ⟨e, rfl⟩) (fun a ha => by simp at ha)
  | frm c hc ok hk w d ih =>
   intro i hi e;obtain ⟨a, ha, ea⟩ := zn (qk.2 d);refine vr hc ok hi (fr := [a]) ((ZB hR hk).2 ⟨by rw [e], a, ha, by rw [e]; exact ea, rfl⟩) (fun b hb => ?_);rw [List.mem_singleton.1 hb];exact ih a ha ea
  | lnk c hc ok hk x w d1 d2 ih1 ih2 =>
   intro i hi e;obtain ⟨a, ha, ea⟩ := zn (qk.2 d1);obtain ⟨b, hb, eb⟩ := zn (qk.2 d2);refine vr hc ok hi (fr := [a, b]) ((Z0 hR hk).2 ⟨by rw [e], a, b, ⟨ha, by rw [ea]⟩, ⟨hb, by rw [e, ea]; exact eb⟩, rfl⟩) (fun y hy => ?_);rcases List.mem_cons.1 hy with rfl | hy
   ·exact ih1 _ ha ea
   ·rw [List.mem_singleton.1 hy]; exact ih2 b hb eb
  | bth c hc ok hk w d1 d2 ih1 ih2 =>
   intro i hi e;obtain ⟨a, ha, ea⟩ := zn (qk.2 d1);obtain ⟨b, hb, eb⟩ := zn (qk.2 d2);refine vr hc ok hi (fr := [a, b]) ((Z3 hR hn hk).2 ⟨by rw [e], a, b, ⟨ha, by rw [e]; exact ea⟩, ⟨hb, by rw [e]; exact eb⟩, rfl⟩) (fun y hy => ?_);rcases List.mem_cons.1 hy with rfl | hy
   ·exact ih1 _ ha ea
   ·rw [List.mem_singleton.1 hy]; exact ih2 b hb eb
 intro i hi;refine key _ (qk.1 ?_) i (by omega) rfl;rw [rdF hi];exact List.getElem_mem hi
theorem vV (s : List Int) (a b c : Int) (fr : List Int) (hl : fr.length ≤ 2) (hp : ∀ x ∈ fr, 0 ≤ x ∧ x < (s.length : Int)) (hr : ∀ x ∈ fr, 0 ≤ rd s x ∧ rd s x ≤ 1000001) : Ev (fun k => Gg.f k s a b c fr) (szB s fr 1) := by
 unfold Gg.f;have key := Ev.up fr.length (fun i (n : Int) k => Gg.l0 k s n fr fr.length i) (fun i n => szB s (fr.drop i) n) (fun i n => 0 ≤ n ∧ n ≤ 1 + 1000001 * (i : Int)) ?_ ?_ 0 1 (Nat.zero_le _) (by simp)
 ·exact key
 ·intro i n hi hn ih;obtain ⟨p0, p1⟩ := hp fr[i] (List.getElem_mem hi);obtain ⟨r0, r1⟩ := hr fr[i] (List.getElem_mem hi);refine Ev.succ ?_;simp only [Gg.l0, qc, qe, hi, ↓reduceIte, rdI hi, p0, p1, uq_ i];rw [List.drop_eq_getElem_cons hi];unfold szB;by_cases hb : rd s fr[i] > 1000000
  ·simp only [hb, ↓reduceIte];exact Ev.now _
  ·simp only [hb, ↓reduceIte];rw [w64 (by omega) (by omega)];exact ih _ ⟨by omega, by omega⟩
 ·intro n _;refine Ev.succ ?_;simp only [Gg.l0, qc, Nat.lt_irrefl, ↓reduceIte, List.drop_length];exact Ev.now _
theorem Vf : ∀ (l : List Int) (i : Nat) (h : i < l.length) (v : Int), (l.set i v).sum = l.sum - l[i] + v := by
 intro l;induction l with
 | nil => intro i h; simp at h
 | cons x xs ih =>
  intro i h v;cases i with
  | zero =>
   rw [List.set_cons_zero, List.sum_cons, List.sum_cons];show v + xs.sum = x + xs.sum - x + v;omega
  | succ i =>
   have h' : i < xs.length := by simpa using h
   rw [List.set_cons_succ, List.sum_cons, List.sum_cons, ih i h' v, List.getElem_cons_succ];omega
theorem ZN : ∀ l : List Int, (∀ x ∈ l, 0 ≤ x) → 0 ≤ l.sum := by
 intro l;induction l with
 | nil => intro _; simp
 | cons x xs ih =>
  intro h;have h1 := h x (List.mem_cons_self ..);have h2 := ih (fun y hy => h y (List.mem_cons_of_mem _ hy));rw [List.sum_cons];omega
theorem jF {list : List Cr} {F : List Fc} {s : List Int} (h : qu list F s) : 0 ≤ s.sum := by
 refine ZN s (fun x hx => ?_);obtain ⟨i, hi, rfl⟩ := List.getElem_of_mem hx;have := qD h (a := (i : Int)) (by omega) (by have := h.1; omega);rw [rdI hi] at this;omega
theorem qK {s : List Int} {i : Nat} (hi : i < s.length) (v : Int) (j : Nat) : rd (s.set i v) (j : Int) = if j = i then v else rd s (j : Int) := by
 unfold rd;simp only [Int.toNat_natCast, List.getD_eq_getElem?_getD, List.getElem?_set];by_cases h : i = j
 ·subst h;simp [hi]
 ·rw [if_neg h, if_neg (fun h' => h h'.symm)]
theorem Zw {list : List Cr} {F : List Fc} {s : List Int} (h : qu list F s) {i : Nat} (hi : i < F.length) {v : Int} (hv : Ach list F i v) : qu list F (s.set i v) := by
 refine ⟨by rw [List.length_set]; exact h.1, fun j hj => ?_⟩;rw [qK (by rw [h.1]; exact hi)];by_cases e : j = i
 ·subst e;rw [if_pos rfl];exact .inr hv
 ·rw [if_neg e];exact h.2 j hj
theorem V2 {list : List Cr} {F : List Fc} (hR : qg F) (hn : F.Nodup) {s : List Int} (h : qu list F s) {c : Cr} (hc : c ∈ list) (ok : cOk c = true) {i : Nat} (hi : i < F.length) {fr : List Int} (hw : Way F c (rd_T28 F i) fr) (hlt : szB s fr 1 < 1000001) : Ach list F i (szB s fr 1) := by
 rcases Qw (s := s) fr with ⟨h1, _⟩ | ⟨h1, h2⟩
 ·omega
 ·rw [h2];refine Ach.mk i c hc ok ⟨_, fr⟩ hw (by omega) (by omega) rfl (rd s) (fun a ha => ?_);have h3 := (jl hR hn ok hw).2 a ha;obtain ⟨j, rfl⟩ := Int.eq_ofNat_of_zero_le h3.1;rcases h.2 j (by omega) with h4 | h4
  ·have := h1 _ ha; omega
  ·exact h4
theorem vU (list : List Cr) (hl : list.length ≤ 1048576) (F : List Fc) (hR : qg F) (hnd : F.Nodup) (hF : F.length ≤ 144) (s0 : List Int) (hs0 : qu list F s0)
  (hnext : ∀ s, qu list F s → s.sum < s0.sum → ∃ r, Ev (fun k => Fv.l0 k list F s true) r ∧ (qu list F r ∧ qN list F r)) :
  ∃ r, Ev (fun k => Fv.l1 k list F s0 false list list.length 0) r ∧ (qu list F r ∧ qN list F r) := by
 refine Ev.upE list.length (fun m (t : List Int × Bool) k => Fv.l1 k list F t.1 t.2 list list.length m) (fun r => qu list F r ∧ qN list F r)
  (fun m t => qu list F t.1 ∧ (t.2 = false → t.1 = s0 ∧ ∀ c ∈ list.take m, cOk c = true → ∀ d ∈ qf F c, Sat F s0 d) ∧ (t.2 = true → t.1.sum < s0.sum)) ?_ ?_ 0 (s0, false) (Nat.zero_le _) ⟨hs0, fun _ => ⟨rfl, fun c hc => by simp at hc⟩, fun h => by simp at h⟩
 ·rintro m ⟨s, b⟩ hm ⟨hg, hb0, hb1⟩ ih;simp only at hg hb0 hb1;obtain ⟨c, hc⟩ : ∃ c, list[m] = c := ⟨_, rfl⟩;have hcl : c ∈ list := hc ▸ List.getElem_mem hm;have htake : list.take (m + 1) = list.take m ++ [c] := by rw [List.take_succ_eq_append_getElem hm, hc]
  have hup := uq_ m;refine Ev.exsucc ?_;simp only [Fv.l1, qc, qe, hm, ↓reduceIte, rd_T35, qv _ hm, qm _ hm, hc, hup];refine Ev.exbind (qU _ _ _ _ _ _ _ _ _ _) ?_;change ∃ r, Ev (fun k => if cOk c = true then _ else _) r ∧ _;cases ok : cOk c
  ·simp only [Bool.false_eq_true, ↓reduceIte];refine ih (s, b) ⟨hg, fun h => ?_, hb1⟩;obtain ⟨e1, e2⟩ := hb0 h;refine ⟨e1, fun c' hc' ok' => ?_⟩;rw [htake, List.mem_append, List.mem_singleton] at hc';rcases hc' with hc' | rfl
   ·exact e2 c' hc' ok'
   ·rw [ok] at ok'; cases ok'
  ·simp only [↓reduceIte];refine Ev.exbind (vC F (by omega) c) ?_;have hway : ∀ d ∈ qf F c, Way F c d.f0 d.f1 := fun d hd => hd;obtain ⟨D, hD⟩ : ∃ D, D = qf F c := ⟨_, rfl⟩;rw [← hD] at hway ⊢;have hDl : D.length ≤ 2097152 := by
    rw [hD];exact Nat.le_trans (zm F c (by omega)) (by omega)
   refine Ev.upE D.length (fun j (t : List Int × Bool) k => Fv.l2 k list F t.1 t.2 list list.length m D D.length j) (fun r => qu list F r ∧ qN list F r)
    (fun j t => qu list F t.1 ∧ (t.2 = false → t.1 = s0 ∧ (∀ c ∈ list.take m, cOk c = true → ∀ d ∈ qf F c, Sat F s0 d) ∧ ∀ d ∈ D.take j, Sat F s0 d) ∧ (t.2 = true → t.1.sum < s0.sum)) ?_ ?_ 0 (s, b) (Nat.zero_le _) ⟨hg, fun h => ⟨(hb0 h).1, (hb0 h).2, fun d hd => by simp at hd⟩, hb1⟩
   ·rintro j ⟨s, b⟩ hj ⟨hg, hb0, hb1⟩ ih2;simp only at hg hb0 hb1;obtain ⟨d, hd⟩ : ∃ d, D[j] = d := ⟨_, rfl⟩;have hdm : d ∈ D := hd ▸ List.getElem_mem hj;have hw := hway d hdm;have htk : D.take (j + 1) = D.take j ++ [d] := by rw [List.take_succ_eq_append_getElem hj, hd]
    obtain ⟨hfl, hfa⟩ := jl hR hnd ok hw;have hrg : ∀ x ∈ d.f1, 0 ≤ rd s x ∧ rd s x ≤ 1000001 := fun x hx => by have := qD hg (hfa x hx).1 (hfa x hx).2; omega
    have hup2 := uq_ j;have more : Sat F s0 d → b = false → s = s0 → (∀ c ∈ list.take m, cOk c = true → ∀ d ∈ qf F c, Sat F s0 d) ∧ ∀ d' ∈ D.take (j + 1), Sat F s0 d' := by
     intro hs hbf _;refine ⟨(hb0 hbf).2.1, fun d' hd' => ?_⟩;rw [htk, List.mem_append, List.mem_singleton] at hd';rcases hd' with hd' | rfl
     ·exact (hb0 hbf).2.2 d' hd'
     ·exact hs
    refine Ev.exsucc ?_;simp only [Fv.l2, qc, qe, hj, ↓reduceIte, rd_T81, qv _ hj, qm _ hj, hd, hup2];refine Ev.exbind (vV s _ _ _ d.f1 hfl (fun x hx => by rw [hg.1]; exact hfa x hx) hrg) ?_;refine Ev.exbind (vL F _ _ _ (by omega)) ?_;change ∃ r, Ev (fun k => if atF F d.f0.f0 d.f0.f1 ≥ 0 then _ else _) r ∧ _;have hat : q8 (qz d.f0.f0.f0 d.f0.f0.f1 d.f0.f1) F 0 = atF F d.f0.f0 d.f0.f1 := rfl;rw [hat];rcases zf F d.f0.f0 d.f0.f1 with ⟨e, hnot⟩ | ⟨⟨a0, a1⟩, ea⟩
    ·simp only [e, show ¬ ((-1 : Int) ≥ 0) by omega, ↓reduceIte];refine ih2 (s, b) ⟨hg, fun h => ?_, hb1⟩;refine ⟨(hb0 h).1, more (fun i hi hf => ?_) h (hb0 h).1⟩;rw [rdF hi] at hf;exact absurd (show (⟨d.f0.f0, d.f0.f1⟩ : Fc) ∈ F from hf ▸ List.getElem_mem hi) hnot
    ·obtain ⟨p, hp⟩ := Int.eq_ofNat_of_zero_le a0;rw [hp] at a1 ea ⊢;have hpF : p < F.length := by omega
     have hps : p < s.length := by rw [hg.1]; exact hpF
     have ea' : rd_T28 F (p : Int) = d.f0 := ea;simp only [show ((p : Int) ≥ 0) by omega, show (0 : Int) ≤ (p : Int) by omega, show ((p : Int) < (s.length : Int)) by omega, ↓reduceIte, Int.toNat_natCast];have hrp := qD hg (a := (p : Int)) (by omega) (by omega);by_cases hlt : szB s d.f1 1 < rd s (p : Int)
     ·simp only [hlt, ↓reduceIte];refine ih2 (s.set p (szB s d.f1 1), true) ⟨Zw hg hpF (V2 hR hnd hg hcl ok hpF (by rw [ea']; exact hw) (by omega)), fun h => by simp at h, fun _ => ?_⟩;simp only;rw [Vf s p hps, ← rdI hps];cases b
      ·rw [(hb0 rfl).1] at hlt ⊢;omega
      ·have := hb1 rfl;omega
     ·simp only [hlt, ↓reduceIte];refine ih2 (s, b) ⟨hg, fun h => ?_, hb1⟩;have e0 := (hb0 h).1;refine ⟨e0, more (fun i hi hf => ?_) h e0⟩;have : (i : Int) = (p : Int) := vS hnd ⟨by omega, by omega⟩ ⟨by omega, by omega⟩ (hf.trans ea'.symm);rw [this, ← e0];omega
   ·rintro ⟨s, b⟩ ⟨hg, hb0, hb1⟩;simp only at hg hb0 hb1;refine Ev.exsucc ?_;simp only [Fv.l2, qc, Nat.lt_irrefl, ↓reduceIte, hup];refine ih (s, b) ⟨hg, fun h => ?_, hb1⟩;obtain ⟨e1, e2, e3⟩ := hb0 h;refine ⟨e1, fun c' hc' ok' => ?_⟩;rw [htake, List.mem_append, List.mem_singleton] at hc';rcases hc' with hc' | rfl
    ·exact e2 c' hc' ok'
    ·rw [List.take_length, hD] at e3;exact e3
 ·rintro ⟨s, b⟩ ⟨hg, hb0, hb1⟩;simp only at hg hb0 hb1;refine Ev.exsucc ?_;simp only [Fv.l1, qc, Nat.lt_irrefl, ↓reduceIte];cases b
  ·obtain ⟨rfl, e2⟩ := hb0 rfl;refine Ev.exsucc ?_;simp only [Fv.l0, Bool.false_eq_true, ↓reduceIte];rw [List.take_length] at e2;exact ⟨s, Ev.now _, hg, e2⟩
  ·exact hnext s hg (hb1 rfl)
theorem jX (list : List Cr) (hl : list.length ≤ 1048576) (F : List Fc) (hR : qg F) (hnd : F.Nodup) (hF : F.length ≤ 144) : ∀ (n : Nat) (s : List Int), qu list F s → s.sum ≤ (n : Int) →
  ∃ r, Ev (fun k => Fv.l0 k list F s true) r ∧ (qu list F r ∧ qN list F r) := by
 intro n;induction n with
 | zero =>
  intro s hg hs;refine Ev.exsucc ?_;simp only [Fv.l0, ↓reduceIte];refine vU list hl F hR hnd hF s hg (fun s' hg' hlt => ?_);have := jF hg';omega
 | succ n ih =>
  intro s hg hs;refine Ev.exsucc ?_;simp only [Fv.l0, ↓reduceIte];exact vU list hl F hR hnd hF s hg (fun s' hg' hlt => ih s' hg' (by omega))
theorem jZ (list : List Cr) (F : List Fc) : qu list F (List.replicate F.length 1000001) := by
 refine ⟨List.length_replicate, fun i hi => .inl ?_⟩;rw [rdI (by rw [List.length_replicate]; exact hi)];simp
theorem vZ (list : List Cr) (hl : list.length ≤ 1048576) : ∃ r, Ev (fun k => Fv.f k list (qb list)) r ∧ (qu list (qb list) r ∧ qN list (qb list) r) := by
 have hF := qr list;have hR := qA list;have hnd := qt list;unfold Fv.f Gb.f;rw [if_pos ⟨rfl, by omega, by omega⟩];simp only [Option.bind_some, Int.toNat_natCast];have hg := jZ list (qb list);obtain ⟨n, hn⟩ := Int.eq_ofNat_of_zero_le (jF hg);exact jX list hl _ hR hnd hF n _ hg (by show (List.replicate (qb list).length 1000001).sum ≤ _; rw [hn]; exact Int.le_refl _)
theorem jz (list : List Cr) (hl : list.length ≤ 1048576) (F : List Fc) (hF : F.length ≤ 144) (r : List Int) (hr : r.length = F.length) : ∀ (C : List S47), C = (List.range F.length).map (fun i => (⟨rd_T28 F (i : Nat), rd r (i : Nat)⟩ : S47)) →
  Ev (fun k => Ft.l0 k r [] F F.length 0) C := by
 rintro C rfl;have key := Ev.up F.length (fun i (s : List S47) k => Ft.l0 k r s F F.length i) (fun i s => s ++ ((List.range F.length).drop i).map (fun i => (⟨rd_T28 F (i : Nat), rd r (i : Nat)⟩ : S47))) (fun i s => s.length ≤ i) ?_ ?_ 0 [] (Nat.zero_le _) (by simp)
 ·exact key
 ·intro i s hi hs ih;refine Ev.succ ?_;simp only [Ft.l0, qc, qe, hi, hr, ↓reduceIte, uq_ i, show s.length < 4398046511104 by omega];rw [List.drop_eq_getElem_cons (by simpa using hi), List.map_cons, List.getElem_range];have h2 := ih (s ++ [⟨rd_T28 F (i : Nat), rd r (i : Nat)⟩]) (by simp; omega);rw [List.append_assoc, List.singleton_append] at h2;exact h2
 ·intro s hs;refine Ev.succ ?_;simp only [Ft.l0, qc, Nat.lt_irrefl, ↓reduceIte];rw [show (List.range F.length).drop F.length = [] from List.drop_eq_nil_of_le (by simp), List.map_nil, List.append_nil];exact Ev.now _
def vE (F : List Fc) (r : List Int) : List S47 := (List.range F.length).map (fun i => (⟨rd_T28 F (i : Nat), rd r (i : Nat)⟩ : S47))
theorem vX (F : List Fc) (r : List Int) : (vE F r).length = F.length := by simp [vE]
theorem vH (list : List Cr) (hl : list.length ≤ 1048576) (r : List Int) (hr : r.length = (qb list).length) (he : Ev (fun k => Fv.f k list (qb list)) r) : Ev (fun k => Ft.f k list) (vE (qb list) r) := by
 unfold Ft.f;refine Ev.bind (zG list hl) ?_;refine Ev.bind he ?_;exact jz list hl _ (qr list) r hr _ rfl
end Q
end Go.Proofs.Ytljhfomkakhflaa

namespace Go.Proofs.Ytljhfomkakhflaa
open Go.RowKit Go.Proofs.YtljhfomkakhflaaW.PrintWords Go.Proofs.YtljhfomkakhflaaW.PrintLast Go.Proofs.YtljhfomkakhflaaW.PrintMore Go.Proofs.Ytljhfomkakhflaa.PA
set_option linter.unusedVariables false
set_option linter.unusedSimpArgs false
namespace Q
def gt (xs : List Int) (t : Nat) : Int := rd xs (t : Int)
theorem vQ {xs : List Int} {t : Nat} (h : t < xs.length) : gt xs t = xs[t] := rdI h
theorem ZD {xs : List Int} {i : Nat} (hi : i < xs.length) (v : Int) (t : Nat) : gt (xs.set i v) t = if t = i then v else gt xs t := qK hi v t
def sw (xs : List Int) (i j : Nat) : List Int := (xs.set i (gt xs j)).set j (gt xs i)
theorem zg (xs : List Int) (i j : Nat) : (sw xs i j).length = xs.length := by simp [sw]
theorem vl {xs : List Int} {i j : Nat} (hi : i < xs.length) (hj : j < xs.length) (t : Nat) : gt (sw xs i j) t = if t = j then gt xs i else if t = i then gt xs j else gt xs t := by
 unfold sw;rw [ZD (by simpa using hj), ZD hi]
theorem jj (xs : List Int) : xs.Nodup ↔ ∀ i j, i < xs.length → j < xs.length → gt xs i = gt xs j → i = j := by
 constructor
 ·intro h i j hi hj e;rw [vQ hi, vQ hj] at e;have hp := List.pairwise_iff_getElem.1 h;rcases Nat.lt_trichotomy i j with hlt | rfl | hlt
  ·exact absurd e (hp i j hi hj hlt)
  ·rfl
  ·exact absurd e.symm (hp j i hj hi hlt)
 ·intro h;refine List.pairwise_iff_getElem.2 fun i j hi hj hlt e => ?_;have := h i j hi hj (by rw [vQ hi, vQ hj]; exact e);omega
structure Sub (a b : Nat) (xs ys : List Int) : Prop where
 len : ys.length = xs.length
 out : ∀ t, (t < a ∨ b ≤ t) → gt ys t = gt xs t
 inn : ∀ t, a ≤ t → t < b → ∃ s, a ≤ s ∧ s < b ∧ gt ys t = gt xs s
 nod : xs.Nodup → ys.Nodup
theorem Sub.refl (a b : Nat) (xs : List Int) : Sub a b xs xs := ⟨rfl, fun _ _ => rfl, fun t h1 h2 => ⟨t, h1, h2, rfl⟩, id⟩
theorem Sub.trans {a b : Nat} {xs ys zs : List Int} (h : Sub a b xs ys) (k : Sub a b ys zs) : Sub a b xs zs :=
 ⟨k.len.trans h.len, fun t ht => (k.out t ht).trans (h.out t ht), fun t h1 h2 => by
  obtain ⟨s, s1, s2, e⟩ := k.inn t h1 h2
  obtain ⟨u, u1, u2, e'⟩ := h.inn s s1 s2
  exact ⟨u, u1, u2, e.trans e'⟩, fun hn => k.nod (h.nod hn)⟩
theorem Sub.wide {a b a' b' : Nat} {xs ys : List Int} (h : Sub a' b' xs ys) (ha : a ≤ a') (hb : b' ≤ b) : Sub a b xs ys :=
 ⟨h.len, fun t ht => h.out t (by omega), fun t h1 h2 => by
  by_cases hi : a' ≤ t ∧ t < b'
  ·obtain ⟨s, s1, s2, e⟩ := h.inn t hi.1 hi.2
   exact ⟨s, by omega, by omega, e⟩
  ·exact ⟨t, h1, h2, h.out t (by omega)⟩, h.nod⟩
theorem jm {a b i j : Nat} {xs : List Int} (h1 : a ≤ i) (h2 : i < b) (h3 : a ≤ j) (h4 : j < b) (hb : b ≤ xs.length) : Sub a b xs (sw xs i j) := by
 have hi : i < xs.length := by omega
 have hj : j < xs.length := by omega
 refine ⟨zg xs i j, fun t ht => ?_, fun t t1 t2 => ?_, fun hn => ?_⟩
 ·rw [vl hi hj, if_neg (by omega), if_neg (by omega)]
 ·rw [vl hi hj];by_cases e1 : t = j
  ·rw [if_pos e1]; exact ⟨i, h1, h2, rfl⟩
  ·rw [if_neg e1];by_cases e2 : t = i
   ·rw [if_pos e2]; exact ⟨j, h3, h4, rfl⟩
   ·rw [if_neg e2]; exact ⟨t, t1, t2, rfl⟩
 ·rw [jj] at hn ⊢;rw [zg];intro u v hu hv e;rw [vl hi hj, vl hi hj] at e;repeat' split at e
  all_goals first | omega | (have := hn _ _ (by omega) (by omega) e; omega)
structure Cm (p : Int → Int → Option Int) (key : Int → Int) (xs : List Int) : Prop where
 lim : xs.length ≤ 100000
 cmp : ∀ s t, s < xs.length → t < xs.length → p (gt xs s) (gt xs t) = some (key (gt xs s) - key (gt xs t))
theorem Cm.sub {p : Int → Int → Option Int} {key : Int → Int} {a b : Nat} {xs ys : List Int} (h : Cm p key xs) (k : Sub a b xs ys) (hb : b ≤ xs.length) : Cm p key ys := by
 have one : ∀ s, s < ys.length → ∃ u, u < xs.length ∧ gt ys s = gt xs u := by
  intro s hs;rw [k.len] at hs;by_cases hi : a ≤ s ∧ s < b
  ·obtain ⟨u, u1, u2, e⟩ := k.inn s hi.1 hi.2;exact ⟨u, by omega, e⟩
  ·exact ⟨s, hs, k.out s (by omega)⟩
 refine ⟨by rw [k.len]; exact h.lim, fun s t hs ht => ?_⟩;obtain ⟨u, hu, e⟩ := one s hs;obtain ⟨v, hv, e'⟩ := one t ht;rw [e, e'];exact h.cmp u v hu hv
def Srt (key : Int → Int) (xs : List Int) (a b : Nat) : Prop := ∀ s t, a ≤ s → s < t → t < b → key (gt xs s) ≤ key (gt xs t)
theorem Srt.nar {key : Int → Int} {xs : List Int} {a b a' b' : Nat} (h : Srt key xs a b) (ha : a ≤ a') (hb : b' ≤ b) : Srt key xs a' b' := fun s t h1 h2 h3 => h s t (by omega) h2 (by omega)
theorem Srt.of {key : Int → Int} {xs ys : List Int} {a b : Nat} (h : Srt key xs a b) (he : ∀ t, a ≤ t → t < b → gt ys t = gt xs t) : Srt key ys a b := fun s t h1 h2 h3 => by rw [he s h1 (by omega), he t (by omega) h3]; exact h s t h1 h2 h3
theorem Srt.le {key : Int → Int} {xs : List Int} {a b : Nat} (h : Srt key xs a b) {s t : Nat} (h1 : a ≤ s) (h2 : s ≤ t) (h3 : t < b) : key (gt xs s) ≤ key (gt xs t) := by
 rcases Nat.lt_or_eq_of_le h2 with h4 | rfl
 ·exact h s t h1 h4 h3
 ·exact Int.le_refl _
theorem nn (n : Nat) : (0 : Int) ≤ (n : Int) := Int.natCast_nonneg n
theorem Q3 {x y : Nat} (hx : x ≤ 1000000) (hy : y ≤ 1000000) : wrap64 ((IntKind.u64.wrap (wrap64 ((x : Int) + (y : Int)))) / 2) = (((x + y) / 2 : Nat) : Int) := by
 rw [w64 (n := (x : Int) + y) (by omega) (by omega), IntKind.wrap_u64, w64 (by omega) (by omega)];omega
theorem QW {x y : Nat} (hx : x ≤ 1000000) (hy : y ≤ 1000000) : wrap64 ((x : Int) + (y : Int)) = ((x + y : Nat) : Int) := by rw [w64 (by omega) (by omega)]; omega
theorem vk {x y : Nat} (hx : x ≤ 1000000) (hy : y ≤ x) : wrap64 ((x : Int) - (y : Int)) = ((x - y : Nat) : Int) := by rw [w64 (by omega) (by omega)]; omega
theorem upn {x : Nat} (hx : x ≤ 1000000) : wrap64 ((x : Int) + 1) = ((x + 1 : Nat) : Int) := by rw [w64 (by omega) (by omega)]; omega
theorem dnn {x : Nat} (hx : x ≤ 1000000) : wrap64 (((x + 1 : Nat) : Int) - 1) = (x : Int) := by rw [w64 (by omega) (by omega)]; omega
theorem Qu (xs : List Int) (i j : Nat) : (xs.set ((i : Nat) : Int).toNat (rd xs (j : Int))).set ((j : Nat) : Int).toNat (rd xs (i : Int)) = sw xs i j := by simp [sw, gt]
theorem ZZ (a b m : Nat) (hab : a + m ≤ b) : ∀ (d i : Nat) (xs : List Int), m - i = d → i ≤ m → b + m ≤ xs.length → xs.length ≤ 100000 →
  ∃ ys, Ev (fun k => Fe.l0 k xs (a : Int) (b : Int) (m : Int) (i : Int)) ys ∧ (Sub a (b + m) xs ys ∧ ∀ t, gt ys t = if a + i ≤ t ∧ t < a + m then gt xs (t - a + b) else if b + i ≤ t ∧ t < b + m then gt xs (t - b + a) else gt xs t) := by
 intro d;induction d with
 | zero =>
  intro i xs hd hi hx hl;obtain rfl : i = m := by omega
  refine Ev.exsucc ?_;simp only [Fe.l0];simp only [show ¬ (i : Int) < (i : Int) from by omega, if_false];exact ⟨xs, Ev.now xs, Sub.refl _ _ _, fun t => by rw [if_neg (by omega), if_neg (by omega)]⟩
 | succ d ih =>
  intro i xs hd hi hx hl;refine Ev.exsucc ?_;simp only [Fe.l0];rw [QW (x := b) (y := i) (by omega) (by omega), QW (x := a) (y := i) (by omega) (by omega), upn (x := i) (by omega), Qu xs (a + i) (b + i)];simp only [show (i : Int) < (m : Int) from by omega, show (0 : Int) ≤ ((b + i : Nat) : Int) from by omega, show ((b + i : Nat) : Int) < (xs.length : Int) from by omega, show (0 : Int) ≤ ((a + i : Nat) : Int) from by omega, show ((a + i : Nat) : Int) < (xs.length : Int) from by omega, if_true];obtain ⟨ys, h1, h2, h3⟩ := ih (i + 1) (sw xs (a + i) (b + i)) (by omega) (by omega) (by rw [zg]; exact hx) (by rw [zg]; exact hl);refine ⟨ys, h1, (jm (by omega) (by omega) (by omega) (by omega) (by omega)).trans h2, fun t => ?_⟩;rw [h3 t];have hs := fun u => vl (xs := xs) (i := a + i) (j := b + i) (by omega) (by omega) u;simp only [hs];repeat' split
  all_goals first | omega | (congr 1; omega)
theorem zZ (p : Int → Int → Option Int) (a b m : Nat) (hab : a + m ≤ b) (xs : List Int) (hx : b + m ≤ xs.length) (hl : xs.length ≤ 100000) :
  ∃ ys, Ev (fun k => Fe.f k xs (a : Int) (b : Int) (m : Int) p) ys ∧ (Sub a (b + m) xs ys ∧ ∀ t, gt ys t = if a ≤ t ∧ t < a + m then gt xs (t - a + b) else if b ≤ t ∧ t < b + m then gt xs (t - b + a) else gt xs t) := by
 unfold Fe.f;exact ZZ a b m hab m 0 xs (by omega) (by omega) hx hl
def Rot (s m e : Nat) (xs ys : List Int) : Prop := ∀ t, gt ys t = if s ≤ t ∧ t < s + (e - m) then gt xs (t + (m - s)) else if s + (e - m) ≤ t ∧ t < e then gt xs (t - (e - m)) else gt xs t
theorem Vy (p : Int → Int → Option Int) (m : Nat) : ∀ (d i j : Nat) (xs : List Int), i + j = d → 0 < i → 0 < j → i ≤ m → m + j ≤ xs.length → xs.length ≤ 100000 →
  ∃ ys, Ev (fun k => Fu.l0 k xs (m : Int) p (i : Int) (j : Int)) ys ∧ (Sub (m - i) (m + j) xs ys ∧ Rot (m - i) m (m + j) xs ys) := by
 intro d;induction d using Nat.strongRecOn with
 | _ d ih =>
  intro i j xs hd hi hj him hx hl;refine Ev.exsucc ?_;simp only [Fu.l0];rw [vk (x := m) (y := i) (by omega) (by omega), QW (x := m) (y := j) (by omega) (by omega)];by_cases e : i = j
  ·subst e;simp only [if_true];obtain ⟨ys, h1, h2, h3⟩ := zZ p (m - i) m i (by omega) xs (by omega) hl;refine Ev.exbind h1 ⟨ys, Ev.now ys, h2, fun t => ?_⟩;rw [h3 t];repeat' split
   all_goals first | omega | (congr 1; omega)
  ·simp only [show ¬ (i : Int) = (j : Int) from by omega, if_false];by_cases g : j < i
   ·simp only [show (i : Int) > (j : Int) from by omega, if_true];rw [vk (x := i) (y := j) (by omega) (by omega)];obtain ⟨ys, h1, h2, h3⟩ := zZ p (m - i) m j (by omega) xs (by omega) hl;obtain ⟨zs, k1, k2, k3⟩ := ih (i - j + j) (by omega) (i - j) j ys rfl (by omega) hj (by omega) (by rw [h2.len]; exact hx) (by rw [h2.len]; exact hl);refine Ev.exbind h1 ⟨zs, k1, h2.trans (k2.wide (by omega) (by omega)), fun t => ?_⟩;rw [k3 t];simp only [h3];repeat' split
    all_goals first | omega | (congr 1; omega)
   ·simp only [show ¬ (i : Int) > (j : Int) from by omega, if_false];rw [vk (x := j) (y := i) (by omega) (by omega), vk (x := m + j) (y := i) (by omega) (by omega)];obtain ⟨ys, h1, h2, h3⟩ := zZ p (m - i) (m + j - i) i (by omega) xs (by omega) hl;rw [show m + j - i + i = m + j from by omega] at h2 h3;obtain ⟨zs, k1, k2, k3⟩ := ih (i + (j - i)) (by omega) i (j - i) ys rfl hi (by omega) him (by rw [h2.len]; omega) (by rw [h2.len]; exact hl);refine Ev.exbind h1 ⟨zs, k1, h2.trans (k2.wide (by omega) (by omega)), fun t => ?_⟩;rw [k3 t];simp only [h3];repeat' split
    all_goals first | omega | (congr 1; omega)
theorem V6 (p : Int → Int → Option Int) (s m e : Nat) (h1 : s < m) (h2 : m < e) (xs : List Int) (hx : e ≤ xs.length) (hl : xs.length ≤ 100000) :
  ∃ ys, Ev (fun k => Fu.f k xs (s : Int) (m : Int) (e : Int) p) ys ∧ (Sub s e xs ys ∧ Rot s m e xs ys) := by
 unfold Fu.f;rw [vk (x := m) (y := s) (by omega) (by omega), vk (x := e) (y := m) (by omega) (by omega)];have := Vy p m (m - s + (e - m)) (m - s) (e - m) xs rfl (by omega) (by omega) (by omega) (by omega) hl;rwa [show m - (m - s) = s from by omega, show m + (e - m) = e from by omega] at this
structure ZS (key : Int → Int) (xs : List Int) (a i j : Nat) : Prop where
 rest : ∀ s t, a ≤ s → s < t → t ≤ i → s ≠ j → t ≠ j → key (gt xs s) ≤ key (gt xs t)
 over : ∀ t, j < t → t ≤ i → key (gt xs j) ≤ key (gt xs t)
theorem zW {key : Int → Int} {xs : List Int} {a i j : Nat} (h : ZS key xs a i j) (hj : j = a ∨ (a < j ∧ key (gt xs (j - 1)) ≤ key (gt xs j))) (hji : j ≤ i) : Srt key xs a (i + 1) := by
 intro s t h1 h2 h3;by_cases es : s = j
 ·subst es; exact h.over t h2 (by omega)
 ·by_cases et : t = j
  ·subst et;rcases hj with hj | ⟨hj, hk⟩
   ·omega
   ·by_cases e : s = t - 1
    ·subst e; exact hk
    ·exact Int.le_trans (h.rest s (t - 1) h1 (by omega) (by omega) es (by omega)) hk
  ·exact h.rest s t h1 h2 (by omega) es et
theorem ZQ {key : Int → Int} {xs : List Int} {a i j : Nat} (h : ZS key xs a i (j + 1)) (ha : a ≤ j) (hji : j + 1 ≤ i) (hi : i < xs.length) (hk : key (gt xs (j + 1)) < key (gt xs j)) : ZS key (sw xs (j + 1) j) a i j := by
 have hs := fun u => vl (xs := xs) (i := j + 1) (j := j) (by omega) (by omega) u;refine ⟨fun s t h1 h2 h3 e1 e2 => ?_, fun t h1 h2 => ?_⟩
 ·rw [hs s, hs t, if_neg e1, if_neg e2];by_cases es : s = j + 1
  ·rw [if_pos es, if_neg (by omega)];exact h.rest j t ha (by omega) h3 (by omega) (by omega)
  ·rw [if_neg es];by_cases et : t = j + 1
   ·rw [if_pos et]; exact h.rest s j h1 (by omega) (by omega) (by omega) (by omega)
   ·rw [if_neg et]; exact h.rest s t h1 h2 h3 es et
 ·rw [hs j, if_pos rfl, hs t, if_neg (by omega)];by_cases et : t = j + 1
  ·rw [if_pos et]; omega
  ·rw [if_neg et]; exact h.over t (by omega) h2
theorem Vp (key : Int → Int) (p : Int → Int → Option Int) (a b i : Nat) (hi : i < b)
  (next : ∀ xs, Cm p key xs → b ≤ xs.length → Srt key xs a (i + 1) → ∃ ys, Ev (fun k => Fb.l0 k xs (a : Int) (b : Int) p ((i + 1 : Nat) : Int)) ys ∧ (Sub a b xs ys ∧ Srt key ys a b)) :
  ∀ (j : Nat) (xs : List Int), a ≤ j → j ≤ i → Cm p key xs → b ≤ xs.length → ZS key xs a i j → ∃ ys, Ev (fun k => Fb.l1 k xs (a : Int) (b : Int) p (i : Int) (j : Int)) ys ∧ (Sub a b xs ys ∧ Srt key ys a b) := by
 intro j;induction j with
 | zero =>
  intro xs ha hj hc hb hv;refine Ev.exsucc ?_;simp only [Fb.l1];simp only [show ¬ ((0 : Nat) : Int) > (a : Int) from by omega, if_false];rw [upn (x := i) (by have := hc.lim; omega)];exact next xs hc hb (zW hv (.inl (by omega)) hj)
 | succ j ih =>
  intro xs ha hj hc hb hv;have hl := hc.lim;refine Ev.exsucc ?_;simp only [Fb.l1];rw [dnn (x := j) (by omega), upn (x := i) (by omega), Qu xs (j + 1) j];by_cases e : a = j + 1
  ·simp only [show ¬ ((j + 1 : Nat) : Int) > (a : Int) from by omega, if_false];exact next xs hc hb (zW hv (.inl (by omega)) hj)
  ·simp only [show ((j + 1 : Nat) : Int) > (a : Int) from by omega, show (0 : Int) ≤ ((j + 1 : Nat) : Int) from by omega, show ((j + 1 : Nat) : Int) < (xs.length : Int) from by omega, show (0 : Int) ≤ ((j : Nat) : Int) from by omega, show ((j : Nat) : Int) < (xs.length : Int) from by omega, if_true];rw [show p (rd xs ((j + 1 : Nat) : Int)) (rd xs (j : Int)) = some (key (gt xs (j + 1)) - key (gt xs j)) from hc.cmp (j + 1) j (by omega) (by omega)];simp only [Option.bind_some];by_cases g : key (gt xs (j + 1)) < key (gt xs j)
   ·simp only [show key (gt xs (j + 1)) - key (gt xs j) < 0 from by omega, if_true];have hsb := jm (a := a) (b := b) (i := j + 1) (j := j) (xs := xs) (by omega) (by omega) (by omega) (by omega) hb;obtain ⟨ys, h1, h2, h3⟩ := ih (sw xs (j + 1) j) (by omega) (by omega) (hc.sub hsb hb) (by rw [zg]; exact hb) (ZQ hv (by omega) hj (by omega) g);exact ⟨ys, h1, hsb.trans h2, h3⟩
   ·simp only [show ¬ key (gt xs (j + 1)) - key (gt xs j) < 0 from by omega, if_false];exact next xs hc hb (zW hv (.inr ⟨by omega, by simp only [Nat.add_sub_cancel]; omega⟩) hj)
theorem Vz (key : Int → Int) (p : Int → Int → Option Int) (a b : Nat) : ∀ (d i : Nat) (xs : List Int), b - i = d → a ≤ i → Cm p key xs → b ≤ xs.length → Srt key xs a i →
  ∃ ys, Ev (fun k => Fb.l0 k xs (a : Int) (b : Int) p (i : Int)) ys ∧ (Sub a b xs ys ∧ Srt key ys a b) := by
 intro d;induction d with
 | zero =>
  intro i xs hd ha hc hb hs;refine Ev.exsucc ?_;simp only [Fb.l0];simp only [show ¬ (i : Int) < (b : Int) from by omega, if_false];exact ⟨xs, Ev.now xs, Sub.refl _ _ _, hs.nar (Nat.le_refl _) (by omega)⟩
 | succ d ih =>
  intro i xs hd ha hc hb hs;refine Ev.exsucc ?_;simp only [Fb.l0];simp only [show (i : Int) < (b : Int) from by omega, if_true];exact Vp key p a b i (by omega) (fun xs' h1 h2 h3 => ih (i + 1) xs' (by omega) (by omega) h1 h2 h3) i xs ha (Nat.le_refl _) hc hb ⟨fun s t h1 h2 h3 e1 e2 => hs s t h1 h2 (by omega), fun t h1 h2 => by omega⟩
theorem jc (key : Int → Int) (p : Int → Int → Option Int) (a b : Nat) (xs : List Int) (hc : Cm p key xs) (hb : b ≤ xs.length) (ha : a ≤ xs.length) :
  ∃ ys, Ev (fun k => Fb.f k xs (a : Int) (b : Int) p) ys ∧ (Sub a b xs ys ∧ Srt key ys a b) := by
 unfold Fb.f;rw [upn (x := a) (by have := hc.lim; omega)];exact Vz key p a b (b - (a + 1)) (a + 1) xs rfl (by omega) hc hb (fun s t h1 h2 h3 => by omega)
theorem VI (i : Nat) : ∀ (d k0 : Nat) (xs : List Int), i - 1 - k0 = d → k0 < i → i ≤ xs.length → xs.length ≤ 100000 →
  ∃ ys, Ev (fun k => Fa.l1 k xs (i : Int) (k0 : Int)) ys ∧ (Sub k0 i xs ys ∧ ∀ t, gt ys t = if k0 ≤ t ∧ t + 1 < i then gt xs (t + 1) else if t + 1 = i then gt xs k0 else gt xs t) := by
 intro d;induction d with
 | zero =>
  intro k0 xs hd hk hi hl;refine Ev.exsucc ?_;simp only [Fa.l1];obtain ⟨i', rfl⟩ : ∃ i', i = i' + 1 := ⟨i - 1, by omega⟩;rw [dnn (x := i') (by omega)];simp only [show ¬ (k0 : Int) < (i' : Int) from by omega, if_false];refine ⟨xs, Ev.now xs, Sub.refl _ _ _, fun t => ?_⟩;repeat' split
  all_goals first | omega | (congr 1; omega)
 | succ d ih =>
  intro k0 xs hd hk hi hl;refine Ev.exsucc ?_;simp only [Fa.l1];obtain ⟨i', rfl⟩ : ∃ i', i = i' + 1 := ⟨i - 1, by omega⟩;rw [dnn (x := i') (by omega), upn (x := k0) (by omega), Qu xs k0 (k0 + 1)];simp only [show (k0 : Int) < (i' : Int) from by omega, show (0 : Int) ≤ ((k0 + 1 : Nat) : Int) from by omega, show ((k0 + 1 : Nat) : Int) < (xs.length : Int) from by omega, show (0 : Int) ≤ (k0 : Int) from by omega, show (k0 : Int) < (xs.length : Int) from by omega, if_true];obtain ⟨ys, h1, h2, h3⟩ := ih (k0 + 1) (sw xs k0 (k0 + 1)) (by omega) (by omega) (by rw [zg]; exact hi) (by rw [zg]; exact hl);refine ⟨ys, h1, (jm (by omega) (by omega) (by omega) (by omega) hi).trans (h2.wide (by omega) (by omega)), fun t => ?_⟩;have hs := fun u => vl (xs := xs) (i := k0) (j := k0 + 1) (by omega) (by omega) u;rw [h3 t];simp only [hs];repeat' split
  all_goals first | omega | exact absurd trivial (by assumption) | (congr 1; omega)
theorem ZY (i : Nat) : ∀ (d k0 : Nat) (xs : List Int), k0 - i = d → i ≤ k0 → k0 < xs.length → xs.length ≤ 100000 →
  ∃ ys, Ev (fun k => Fa.l3 k xs (i : Int) (k0 : Int)) ys ∧ (Sub i (k0 + 1) xs ys ∧ ∀ t, gt ys t = if t = i then gt xs k0 else if i < t ∧ t ≤ k0 then gt xs (t - 1) else gt xs t) := by
 intro d;induction d with
 | zero =>
  intro k0 xs hd hk hi hl;refine Ev.exsucc ?_;simp only [Fa.l3];simp only [show ¬ (k0 : Int) > (i : Int) from by omega, if_false];refine ⟨xs, Ev.now xs, Sub.refl _ _ _, fun t => ?_⟩;repeat' split
  all_goals first | omega | (congr 1; omega)
 | succ d ih =>
  intro k0 xs hd hk hi hl;refine Ev.exsucc ?_;simp only [Fa.l3];obtain ⟨k1, rfl⟩ : ∃ k1, k0 = k1 + 1 := ⟨k0 - 1, by omega⟩;rw [dnn (x := k1) (by omega), Qu xs (k1 + 1) k1];simp only [show ((k1 + 1 : Nat) : Int) > (i : Int) from by omega, show (0 : Int) ≤ ((k1 + 1 : Nat) : Int) from by omega, show ((k1 + 1 : Nat) : Int) < (xs.length : Int) from by omega, show (0 : Int) ≤ (k1 : Int) from by omega, show (k1 : Int) < (xs.length : Int) from by omega, if_true];obtain ⟨ys, h1, h2, h3⟩ := ih k1 (sw xs (k1 + 1) k1) (by omega) (by omega) (by rw [zg]; omega) (by rw [zg]; exact hl);refine ⟨ys, h1, (jm (by omega) (by omega) (by omega) (by omega) (by omega)).trans (h2.wide (by omega) (by omega)), fun t => ?_⟩;have hs := fun u => vl (xs := xs) (i := k1 + 1) (j := k1) (by omega) (by omega) u;rw [h3 t];simp only [hs];repeat' split
  all_goals first | omega | exact absurd trivial (by assumption) | (congr 1; omega)
theorem Vu (key : Int → Int) (p : Int → Int → Option Int) (a b : Nat) (xs : List Int) (hc : Cm p key xs) (hab : a < b) (hb : b ≤ xs.length) (hs : Srt key xs (a + 1) b) :
  ∀ (d i j : Nat), j - i = d → a + 1 ≤ i → i ≤ j → j ≤ b → (∀ t, a + 1 ≤ t → t < i → key (gt xs t) < key (gt xs a)) → (∀ t, j ≤ t → t < b → key (gt xs a) ≤ key (gt xs t)) →
  ∃ ys, Ev (fun k => Fa.l0 k xs (a : Int) p (i : Int) (j : Int)) ys ∧ (Sub a b xs ys ∧ Srt key ys a b) := by
 intro d;induction d using Nat.strongRecOn with
 | _ d ih =>
  intro i j hd hi hij hj hlo hhi;have hl := hc.lim;refine Ev.exsucc ?_;simp only [Fa.l0];rw [Q3 (x := i) (y := j) (by omega) (by omega), upn (x := (i + j) / 2) (by omega)];by_cases e : i < j
  ·simp only [show (i : Int) < (j : Int) from by omega, show (0 : Int) ≤ (((i + j) / 2 : Nat) : Int) from by omega, show (((i + j) / 2 : Nat) : Int) < (xs.length : Int) from by omega, show (0 : Int) ≤ (a : Int) from by omega, show (a : Int) < (xs.length : Int) from by omega, if_true];rw [show p (rd xs (((i + j) / 2 : Nat) : Int)) (rd xs (a : Int)) = some (key (gt xs ((i + j) / 2)) - key (gt xs a)) from hc.cmp ((i + j) / 2) a (by omega) (by omega)];simp only [Option.bind_some];by_cases g : key (gt xs ((i + j) / 2)) < key (gt xs a)
   ·simp only [show key (gt xs ((i + j) / 2)) - key (gt xs a) < 0 from by omega, if_true];exact ih (j - ((i + j) / 2 + 1)) (by omega) ((i + j) / 2 + 1) j rfl (by omega) (by omega) hj (fun t h1 h2 => Int.lt_of_le_of_lt (hs.le h1 (by omega) (by omega)) g) hhi
   ·simp only [show ¬ key (gt xs ((i + j) / 2)) - key (gt xs a) < 0 from by omega, if_false];exact ih ((i + j) / 2 - i) (by omega) i ((i + j) / 2) rfl hi (by omega) (by omega) hlo (fun t h1 h2 => Int.le_trans (by omega) (hs.le (s := (i + j) / 2) (by omega) h1 h2))
  ·simp only [show ¬ (i : Int) < (j : Int) from by omega, if_false];obtain ⟨ys, h1, h2, h3⟩ := VI i (i - 1 - a) a xs rfl (by omega) (by omega) hl;refine ⟨ys, h1, h2.wide (Nat.le_refl _) (by omega), fun s t t1 t2 t3 => ?_⟩;rw [h3 s, h3 t];repeat' split
   all_goals first | omega | exact hs _ _ (by omega) (by omega) (by omega) | exact Int.le_of_lt (hlo _ (by omega) (by omega)) | exact hhi _ (by omega) (by omega)
theorem V5 (key : Int → Int) (p : Int → Int → Option Int) (a m : Nat) (xs : List Int) (hc : Cm p key xs) (hab : a < m) (hb : m + 1 ≤ xs.length) (hs : Srt key xs a m) :
  ∀ (d i j : Nat), j - i = d → a ≤ i → i ≤ j → j ≤ m → (∀ t, a ≤ t → t < i → key (gt xs t) ≤ key (gt xs m)) → (∀ t, j ≤ t → t < m → key (gt xs m) < key (gt xs t)) →
  ∃ ys, Ev (fun k => Fa.l2 k xs (m : Int) p (i : Int) (j : Int)) ys ∧ (Sub a (m + 1) xs ys ∧ Srt key ys a (m + 1)) := by
 intro d;induction d using Nat.strongRecOn with
 | _ d ih =>
  intro i j hd hi hij hj hlo hhi;have hl := hc.lim;refine Ev.exsucc ?_;simp only [Fa.l2];rw [Q3 (x := i) (y := j) (by omega) (by omega), upn (x := (i + j) / 2) (by omega)];by_cases e : i < j
  ·simp only [show (i : Int) < (j : Int) from by omega, show (0 : Int) ≤ (((i + j) / 2 : Nat) : Int) from by omega, show (((i + j) / 2 : Nat) : Int) < (xs.length : Int) from by omega, show (0 : Int) ≤ (m : Int) from by omega, show (m : Int) < (xs.length : Int) from by omega, if_true];rw [show p (rd xs (m : Int)) (rd xs (((i + j) / 2 : Nat) : Int)) = some (key (gt xs m) - key (gt xs ((i + j) / 2))) from hc.cmp m ((i + j) / 2) (by omega) (by omega)];simp only [Option.bind_some];by_cases g : key (gt xs m) < key (gt xs ((i + j) / 2))
   ·simp only [show key (gt xs m) - key (gt xs ((i + j) / 2)) < 0 from by omega, if_true];exact ih ((i + j) / 2 - i) (by omega) i ((i + j) / 2) rfl hi (by omega) (by omega) hlo (fun t h1 h2 => Int.lt_of_lt_of_le g (hs.le (by omega) h1 h2))
   ·simp only [show ¬ key (gt xs m) - key (gt xs ((i + j) / 2)) < 0 from by omega, if_false];exact ih (j - ((i + j) / 2 + 1)) (by omega) ((i + j) / 2 + 1) j rfl (by omega) (by omega) hj (fun t h1 h2 => Int.le_trans (hs.le (t := (i + j) / 2) h1 (by omega) (by omega)) (by omega)) hhi
  ·simp only [show ¬ (i : Int) < (j : Int) from by omega, if_false];obtain ⟨ys, h1, h2, h3⟩ := ZY i (m - i) m xs rfl (by omega) (by omega) hl;refine ⟨ys, h1, h2.wide hi (Nat.le_refl _), fun s t t1 t2 t3 => ?_⟩;rw [h3 s, h3 t];repeat' split
   all_goals first | omega | exact hs _ _ (by omega) (by omega) (by omega) | exact Int.le_of_lt (hhi _ (by omega) (by omega)) | exact hlo _ (by omega) (by omega)
def vv (key : Int → Int) (p : Int → Int → Option Int) (n : Nat) : Prop := ∀ (a m b : Nat) (xs : List Int), b - a ≤ n → a < m → m < b → b ≤ xs.length → Cm p key xs → Srt key xs a m → Srt key xs m b →
  ∃ ys, Ev (fun k => Fa.f k xs (a : Int) (m : Int) (b : Int) p) ys ∧ (Sub a b xs ys ∧ Srt key ys a b)
structure Zm (key : Int → Int) (xs : List Int) (a s mid e b : Nat) : Prop where
 l1 : Srt key xs a s
 l2 : Srt key xs s mid
 r1 : Srt key xs mid e
 r2 : Srt key xs e b
 lr : ∀ x y, a ≤ x → x < mid → mid ≤ y → y < b → key (gt xs x) ≤ key (gt xs y)
theorem join_ {key : Int → Int} {xs ys zs : List Int} {a mid b : Nat} (h1 : Sub a mid xs ys) (s1 : Srt key ys a mid) (h2 : Sub mid b ys zs) (s2 : Srt key zs mid b) (hm : a ≤ mid ∧ mid ≤ b)
  (lr : ∀ x y, a ≤ x → x < mid → mid ≤ y → y < b → key (gt xs x) ≤ key (gt xs y)) : Sub a b xs zs ∧ Srt key zs a b := by
 refine ⟨(h1.wide (Nat.le_refl _) hm.2).trans (h2.wide hm.1 (Nat.le_refl _)), fun s t t1 t2 t3 => ?_⟩;by_cases c1 : t < mid
 ·rw [h2.out s (.inl (by omega)), h2.out t (.inl c1)]; exact s1 s t t1 t2 c1
 ·by_cases c2 : mid ≤ s
  ·exact s2 s t c2 t2 t3
  ·obtain ⟨u, u1, u2, e1⟩ := h1.inn s t1 (by omega);obtain ⟨v, v1, v2, e2⟩ := h2.inn t (by omega) t3;rw [h2.out s (.inl (by omega)), e1, e2, h1.out v (.inr v1)];exact lr u v u1 u2 v1 v2
theorem Qv (key : Int → Int) (p : Int → Int → Option Int) (n : Nat) (ih : vv key p n) (mid e b : Nat) (xs : List Int) (hn : b - mid ≤ n) (hmb : mid ≤ b) (hb : b ≤ xs.length) (hc : Cm p key xs) (he : mid ≤ e ∧ e ≤ b) (r1 : Srt key xs mid e) (r2 : Srt key xs e b) :
  ∃ ys, Ev (fun k => if (mid : Int) < (e : Int) then (if (e : Int) < (b : Int) then ((Fa.f k xs (mid : Int) (e : Int) (b : Int) p).bind fun t440 => (some t440)) else (some xs)) else (some xs)) ys ∧ (Sub mid b xs ys ∧ Srt key ys mid b) := by
 by_cases c1 : mid < e
 ·simp only [show (mid : Int) < (e : Int) from by omega, if_true];by_cases c2 : e < b
  ·simp only [show (e : Int) < (b : Int) from by omega, if_true];obtain ⟨ys, h1, h2⟩ := ih mid e b xs hn c1 c2 hb hc r1 r2;exact Ev.exbind h1 ⟨ys, Ev.now ys, h2⟩
  ·simp only [show ¬ (e : Int) < (b : Int) from by omega, if_false];exact ⟨xs, Ev.now xs, Sub.refl _ _ _, r1.nar (Nat.le_refl _) (by omega)⟩
 ·simp only [show ¬ (mid : Int) < (e : Int) from by omega, if_false];exact ⟨xs, Ev.now xs, Sub.refl _ _ _, r2.nar (by omega) (Nat.le_refl _)⟩
theorem Zu (key : Int → Int) (p : Int → Int → Option Int) (n : Nat) (ih : vv key p n) (a s mid e b : Nat) (xs : List Int) (hn1 : mid - a ≤ n) (hn2 : b - mid ≤ n) (hb : b ≤ xs.length) (hc : Cm p key xs) (ho : a ≤ s ∧ s ≤ mid ∧ mid ≤ e ∧ e ≤ b) (hh : Zm key xs a s mid e b) :
  ∃ ys, Ev (fun k => Fa.j7 k xs (a : Int) (b : Int) p (mid : Int) (s : Int) (e : Int)) ys ∧ (Sub a b xs ys ∧ Srt key ys a b) := by
 have fin : ∀ b0 : Bool, (b0 = decide (a < s ∧ s < mid)) → ∃ ys, Ev (fun k => Fa.j8 k xs (a : Int) (b : Int) p (mid : Int) (s : Int) (e : Int) b0) ys ∧ (Sub a b xs ys ∧ Srt key ys a b) := by
  intro b0 hb0;refine Ev.exsucc ?_;simp only [Fa.j8];by_cases c : a < s ∧ s < mid
  ·rw [decide_eq_true c] at hb0;subst hb0;simp only [if_true];obtain ⟨ys, h1, h2, h3⟩ := ih a s mid xs hn1 c.1 c.2 (by omega) hc hh.l1 hh.l2;have hl := h2.len;have hy := h2.wide (b := b) (Nat.le_refl a) (by omega);obtain ⟨zs, k1, k2, k3⟩ := Qv key p n ih mid e b ys hn2 (by omega) (by omega) (hc.sub hy hb) ⟨ho.2.2.1, ho.2.2.2⟩ (hh.r1.of fun t t1 t2 => h2.out t (.inr t1)) (hh.r2.of fun t t1 t2 => h2.out t (.inr (by omega)));exact Ev.exbind h1 ⟨zs, k1, join_ h2 h3 k2 k3 (by omega) hh.lr⟩
  ·rw [decide_eq_false c] at hb0;subst hb0;simp only [Bool.false_eq_true, if_false];obtain ⟨zs, k1, k2, k3⟩ := Qv key p n ih mid e b xs hn2 (by omega) hb hc ⟨ho.2.2.1, ho.2.2.2⟩ hh.r1 hh.r2;have hs : Srt key xs a mid := by
    by_cases c1 : a < s
    ·exact hh.l1.nar (Nat.le_refl _) (by omega)
    ·exact hh.l2.nar (by omega) (Nat.le_refl _)
   exact ⟨zs, k1, join_ (Sub.refl _ _ _) hs k2 k3 (by omega) hh.lr⟩
 refine Ev.exsucc ?_;simp only [Fa.j7];by_cases c : a < s
 ·simp only [show (a : Int) < (s : Int) from by omega, if_true];exact fin _ (by by_cases g : s < mid <;> simp [c, g])
 ·simp only [show ¬ (a : Int) < (s : Int) from by omega, if_false];exact fin _ (by simp [c])
theorem vx {key : Int → Int} {xs zs : List Int} {a s m mid b e : Nat} (h1 : Srt key xs a m) (h2 : Srt key xs m b) (hr : Rot s m e xs zs) (hs : a ≤ s ∧ s ≤ m ∧ m ≤ e ∧ e ≤ b) (hm : mid + m = s + e)
  (lo : ∀ x y, a ≤ x → x < s → e ≤ y → y < b → key (gt xs x) ≤ key (gt xs y)) (hi : ∀ x y, m ≤ x → x < e → s ≤ y → y < m → key (gt xs x) ≤ key (gt xs y)) : Zm key zs a s mid e b := by
 have r1 : ∀ t, t < s → gt zs t = gt xs t := fun t ht => by rw [hr t, if_neg (by omega), if_neg (by omega)]
 have r2 : ∀ t, s ≤ t → t < mid → gt zs t = gt xs (t + (m - s)) := fun t ht ht2 => by rw [hr t, if_pos (by omega)]
 have r3 : ∀ t, mid ≤ t → t < e → gt zs t = gt xs (t - (e - m)) := fun t ht ht2 => by rw [hr t, if_neg (by omega), if_pos (by omega)]
 have r4 : ∀ t, e ≤ t → gt zs t = gt xs t := fun t ht => by rw [hr t, if_neg (by omega), if_neg (by omega)]
 refine ⟨fun x y t1 t2 t3 => ?_, fun x y t1 t2 t3 => ?_, fun x y t1 t2 t3 => ?_, fun x y t1 t2 t3 => ?_, fun x y t1 t2 t3 t4 => ?_⟩
 ·rw [r1 x (by omega), r1 y t3]; exact h1 x y t1 t2 (by omega)
 ·rw [r2 x t1 (by omega), r2 y (by omega) t3]; exact h2 _ _ (by omega) (by omega) (by omega)
 ·rw [r3 x t1 (by omega), r3 y (by omega) t3]; exact h1 _ _ (by omega) (by omega) (by omega)
 ·rw [r4 x t1, r4 y (by omega)]; exact h2 x y (by omega) t2 t3
 ·by_cases c1 : x < s
  ·rw [r1 x c1];by_cases c2 : y < e
   ·rw [r3 y t3 c2]; exact h1 _ _ t1 (by omega) (by omega)
   ·rw [r4 y (by omega)]; exact lo x y t1 c1 (by omega) t4
  ·rw [r2 x (by omega) t2];by_cases c2 : y < e
   ·rw [r3 y t3 c2]; exact hi _ _ (by omega) (by omega) (by omega) (by omega)
   ·rw [r4 y (by omega)]; exact h2 _ _ (by omega) (by omega) t4
theorem VA (key : Int → Int) (p : Int → Int → Option Int) (n : Nat) (ih : vv key p n) (a s m mid e b : Nat) (xs : List Int) (hn1 : mid - a ≤ n) (hn2 : b - mid ≤ n) (hb : b ≤ xs.length) (hc : Cm p key xs) (hs : a ≤ s ∧ s ≤ m ∧ m ≤ e ∧ e ≤ b) (hm : mid + m = s + e) (h1 : Srt key xs a m) (h2 : Srt key xs m b)
  (lo : ∀ x y, a ≤ x → x < s → e ≤ y → y < b → key (gt xs x) ≤ key (gt xs y)) (hi : ∀ x y, m ≤ x → x < e → s ≤ y → y < m → key (gt xs x) ≤ key (gt xs y)) :
  ∃ ys, Ev (fun k => Fa.j6 k xs (a : Int) (m : Int) (b : Int) p (mid : Int) (s : Int) (e : Int) (decide (s < m ∧ m < e))) ys ∧ (Sub a b xs ys ∧ Srt key ys a b) := by
 refine Ev.exsucc ?_;simp only [Fa.j6];by_cases c : s < m ∧ m < e
 ·simp only [decide_eq_true c, if_true];obtain ⟨zs, k1, k2, k3⟩ := V6 p s m e c.1 c.2 xs (by omega) hc.lim;have hl := k2.len;have hw := k2.wide (a := a) (b := b) (by omega) (by omega);obtain ⟨ys, q1, q2, q3⟩ := Zu key p n ih a s mid e b zs hn1 hn2 (by omega) (hc.sub hw hb) (by omega) (vx h1 h2 k3 hs hm lo hi);exact Ev.exbind k1 ⟨ys, q1, hw.trans q2, q3⟩
 ·simp only [decide_eq_false c, Bool.false_eq_true, if_false];have hr : Rot s m e xs xs := fun t => by
   repeat' split
   all_goals first | rfl | (congr 1; omega)
  exact Zu key p n ih a s mid e b xs hn1 hn2 hb hc (by omega) (vx h1 h2 hr hs hm lo hi)
theorem Zp (key : Int → Int) (p : Int → Int → Option Int) (n : Nat) (ih : vv key p n) (a m b mid lo hi : Nat) (xs : List Int) (hmid : mid = (a + b) / 2) (hab : a < m ∧ m < b) (hn1 : mid - a ≤ n) (hn2 : b - mid ≤ n) (hb : b ≤ xs.length) (hc : Cm p key xs) (h1 : Srt key xs a m) (h2 : Srt key xs m b)
  (hlh : (m > mid ∧ lo = mid + m - b ∧ hi = mid) ∨ (m ≤ mid ∧ lo = a ∧ hi = m)) :
  ∀ (d s r : Nat), r - s = d → lo ≤ s → s ≤ r → r ≤ hi → (∀ c, lo ≤ c → c < s → key (gt xs c) ≤ key (gt xs (mid + m - 1 - c))) → (∀ c, r ≤ c → c < hi → key (gt xs (mid + m - 1 - c)) < key (gt xs c)) →
  ∃ ys, Ev (fun k => Fa.l4 k xs (a : Int) (m : Int) (b : Int) p (mid : Int) ((mid + m : Nat) : Int) (s : Int) (r : Int) ((mid + m - 1 : Nat) : Int)) ys ∧ (Sub a b xs ys ∧ Srt key ys a b) := by
 intro d;induction d using Nat.strongRecOn with
 | _ d ih2 =>
  intro s r hd hls hsr hrh hlo hhi;have hl := hc.lim;refine Ev.exsucc ?_;simp only [Fa.l4];rw [Q3 (x := s) (y := r) (by omega) (by omega), upn (x := (s + r) / 2) (by omega)];by_cases e : s < r
  ·have hq : (s + r) / 2 < hi := by omega
   have hq1 : lo ≤ (s + r) / 2 := by omega
   rw [vk (x := mid + m - 1) (y := (s + r) / 2) (by omega) (by omega)];simp only [show (s : Int) < (r : Int) from by omega, show (0 : Int) ≤ (((s + r) / 2 : Nat) : Int) from by omega, show (((s + r) / 2 : Nat) : Int) < (xs.length : Int) from by omega, show (0 : Int) ≤ ((mid + m - 1 - (s + r) / 2 : Nat) : Int) from by omega, show ((mid + m - 1 - (s + r) / 2 : Nat) : Int) < (xs.length : Int) from by omega, if_true];rw [show p (rd xs ((mid + m - 1 - (s + r) / 2 : Nat) : Int)) (rd xs (((s + r) / 2 : Nat) : Int)) = some (key (gt xs (mid + m - 1 - (s + r) / 2)) - key (gt xs ((s + r) / 2))) from hc.cmp (mid + m - 1 - (s + r) / 2) ((s + r) / 2) (by omega) (by omega)];simp only [Option.bind_some];by_cases g : key (gt xs (mid + m - 1 - (s + r) / 2)) < key (gt xs ((s + r) / 2))
   ·simp only [show key (gt xs (mid + m - 1 - (s + r) / 2)) - key (gt xs ((s + r) / 2)) < 0 from by omega, if_true];refine ih2 ((s + r) / 2 - s) (by omega) s ((s + r) / 2) rfl hls (by omega) (by omega) hlo (fun c c1 c2 => ?_);have q1 := h1.le (s := (s + r) / 2) (t := c) (by omega) c1 (by omega);have q2 := h2.le (s := mid + m - 1 - c) (t := mid + m - 1 - (s + r) / 2) (by omega) (by omega) (by omega);omega
   ·simp only [show ¬ key (gt xs (mid + m - 1 - (s + r) / 2)) - key (gt xs ((s + r) / 2)) < 0 from by omega, if_false];refine ih2 (r - ((s + r) / 2 + 1)) (by omega) ((s + r) / 2 + 1) r rfl (by omega) (by omega) hrh (fun c c1 c2 => ?_) hhi;have q1 := h1.le (s := c) (t := (s + r) / 2) (by omega) (by omega) (by omega);have q2 := h2.le (s := mid + m - 1 - (s + r) / 2) (t := mid + m - 1 - c) (by omega) (by omega) (by omega);omega
  ·obtain rfl : s = r := by omega
   simp only [show ¬ (s : Int) < (s : Int) from by omega, if_false];rw [vk (x := mid + m) (y := s) (by omega) (by omega)];have key6 := VA key p n ih a s m mid (mid + m - s) b xs hn1 hn2 hb hc (by omega) (by omega) h1 h2 (fun x y x1 x2 y1 y2 => by
     by_cases q : lo < s
     ·have z1 := hlo (s - 1) (by omega) (by omega)
      rw [show mid + m - 1 - (s - 1) = mid + m - s from by omega] at z1
      exact Int.le_trans (h1.le x1 (show x ≤ s - 1 by omega) (by omega)) (Int.le_trans z1 (h2.le (s := mid + m - s) (by omega) y1 y2))
     ·exfalso; omega)
    (fun x y x1 x2 y1 y2 => by
     by_cases q : s < hi
     ·have z1 := hhi s (Nat.le_refl _) q
      exact Int.le_trans (h2.le x1 (show x ≤ mid + m - 1 - s by omega) (by omega)) (Int.le_trans (Int.le_of_lt z1) (h1.le (s := s) (by omega) y1 y2))
     ·exfalso; omega)
   by_cases g : s < m
   ·simp only [show (s : Int) < (m : Int) from by omega, if_true];rw [show decide ((m : Int) < ((mid + m - s : Nat) : Int)) = decide (s < m ∧ m < mid + m - s) from by
     by_cases w : m < mid + m - s
     ·rw [decide_eq_true (show (m : Int) < ((mid + m - s : Nat) : Int) by omega), decide_eq_true ⟨g, w⟩]
     ·rw [decide_eq_false (show ¬ (m : Int) < ((mid + m - s : Nat) : Int) by omega), decide_eq_false (fun z => w z.2)]]
    exact key6
   ·simp only [show ¬ (s : Int) < (m : Int) from by omega, if_false];rw [decide_eq_false (fun z => g z.1)] at key6;exact key6
theorem Q1 (key : Int → Int) (p : Int → Int → Option Int) : ∀ n, vv key p n := by
 intro n;induction n with
 | zero => intro a m b xs h0 h1 h2; omega
 | succ n ih =>
  intro a m b xs h0 h1 h2 hb hc s1 s2;have hl := hc.lim;refine Ev.exsucc ?_;simp only [Fa.f];rw [vk (x := m) (y := a) (by omega) (by omega), vk (x := b) (y := m) (by omega) (by omega), Q3 (x := a) (y := b) (by omega) (by omega)];by_cases c1 : m - a = 1
  ·simp only [show ((m - a : Nat) : Int) = 1 from by omega, if_true];obtain rfl : m = a + 1 := by omega
   exact Vu key p a b xs hc (by omega) hb s2 (b - (a + 1)) (a + 1) b rfl (by omega) (by omega) (Nat.le_refl _) (fun t t1 t2 => by omega) (fun t t1 t2 => by omega)
  ·simp only [show ¬ ((m - a : Nat) : Int) = 1 from by omega, if_false];by_cases c2 : b - m = 1
   ·simp only [show ((b - m : Nat) : Int) = 1 from by omega, if_true];obtain rfl : b = m + 1 := by omega
    exact V5 key p a m xs hc h1 hb s1 (m - a) a m rfl (by omega) (by omega) (Nat.le_refl _) (fun t t1 t2 => by omega) (fun t t1 t2 => by omega)
   ·simp only [show ¬ ((b - m : Nat) : Int) = 1 from by omega, if_false];rw [QW (x := (a + b) / 2) (y := m) (by omega) (by omega)];by_cases c3 : m > (a + b) / 2
    ·simp only [show (m : Int) > (((a + b) / 2 : Nat) : Int) from by omega, if_true];rw [vk (x := (a + b) / 2 + m) (y := b) (by omega) (by omega)];refine Ev.exsucc ?_;simp only [Fa.j4];rw [show (((a + b) / 2 + m : Nat) : Int) - 1 = (((a + b) / 2 + m : Nat) : Int) - ((1 : Nat) : Int) from rfl, vk (x := (a + b) / 2 + m) (y := 1) (by omega) (by omega)];exact Zp key p n ih a m b ((a + b) / 2) ((a + b) / 2 + m - b) ((a + b) / 2) xs rfl ⟨h1, h2⟩ (by omega) (by omega) hb hc s1 s2 (.inl ⟨c3, rfl, rfl⟩) _ _ _ rfl (Nat.le_refl _) (by omega) (Nat.le_refl _) (fun c t1 t2 => by omega) (fun c t1 t2 => by omega)
    ·simp only [show ¬ (m : Int) > (((a + b) / 2 : Nat) : Int) from by omega, if_false];refine Ev.exsucc ?_;simp only [Fa.j4];rw [show (((a + b) / 2 + m : Nat) : Int) - 1 = (((a + b) / 2 + m : Nat) : Int) - ((1 : Nat) : Int) from rfl, vk (x := (a + b) / 2 + m) (y := 1) (by omega) (by omega)];exact Zp key p n ih a m b ((a + b) / 2) a m xs rfl ⟨h1, h2⟩ (by omega) (by omega) hb hc s1 s2 (.inr ⟨by omega, rfl, rfl⟩) _ _ _ rfl (Nat.le_refl _) (by omega) (Nat.le_refl _) (fun c t1 t2 => by omega) (fun c t1 t2 => by omega)
end Q
end Go.Proofs.Ytljhfomkakhflaa
