/-
Rising: what lies below a policy's last node, and whether a not is among it, by the reference and by the program.
-/
import Derived.Test.YtnoklfpnmopkpaaKPPEx21
import Derived.Test.YtnoklfpnmopkpaaKPQ19
namespace Go.Proofs.Ytnoklfpnmopkpaa
open Go.RowKit Go.Proofs.YtnoklfpnmopkpaaW.PrintWords Go.Proofs.YtnoklfpnmopkpaaW.PrintLast Go.Proofs.YtnoklfpnmopkpaaW.PrintMore Go.Proofs.Ytnoklfpnmopkpaa.PE
set_option linter.unusedVariables false
set_option linter.unusedSimpArgs false
namespace Q
theorem kinds_ {i : Nat} {x : Node} (h : nodeOkB i x = true) : x.f0 = 1 ∨ (x.f0 = 2 ∧ 0 ≤ x.f2 ∧ x.f2 < i ∧ 0 ≤ x.f3 ∧ x.f3 < i) ∨ (x.f0 = 3 ∧ 0 ≤ x.f2 ∧ x.f2 < i ∧ 0 ≤ x.f3 ∧ x.f3 < i) ∨ (x.f0 = 4 ∧ 0 ≤ x.f2 ∧ x.f2 < i) := by
 unfold nodeOkB at h
 by_cases h1 : x.f0 = 1
 ·exact .inl h1
 ·by_cases h2 : x.f0 = 2
  ·simp [h2, inB] at h
   exact .inr (.inl ⟨h2, by omega⟩)
  ·by_cases h3 : x.f0 = 3
   ·simp [h3, inB] at h
    exact .inr (.inr (.inl ⟨h3, by omega⟩))
   ·by_cases h4 : x.f0 = 4
    ·simp [h4, inB] at h
     exact .inr (.inr (.inr ⟨h4, by omega⟩))
    ·simp [h1, h2, h3, h4] at h
def markN (x : Node) (s : List Bool) : List Bool := if x.f0 = 4 then s.set x.f2.toNat true else (s.set x.f2.toNat true).set x.f3.toNat true
def stepN (x : Node) (b : Bool) (s : List Bool) : List Bool := if b = true ∧ x.f0 ≠ 1 then markN x s else s
def downN (l : List Node) : Nat → List Bool → List Bool
 | 0, s => s
 | i + 1, s => downN l i (stepN (l.getD i zN) (s.getD i false) s)
def risesN (l : List Node) : Nat → List Bool → Bool
 | 0, _ => true
 | i + 1, s => if s.getD i false = true ∧ (l.getD i zN).f0 = 4 then false else risesN l i (stepN (l.getD i zN) (s.getD i false) s)
theorem stepN_len (x : Node) (b : Bool) (s : List Bool) : (stepN x b s).length = s.length := by
 unfold stepN markN
 split
 ·split <;> simp
 ·rfl
theorem downN_len (l : List Node) : ∀ i s, (downN l i s).length = s.length := by
 intro i
 induction i with
 | zero => intro s; rfl
 | succ i ih => intro s; unfold downN; rw [ih, stepN_len]
theorem set_getD {s : List Bool} {i j : Nat} (h : i < j) (b : Bool) : (s.set i b).getD j false = s.getD j false := by
 rw [List.getD_eq_getElem?_getD, List.getD_eq_getElem?_getD, List.getElem?_set_ne (by omega)]
theorem stepN_get {i j : Nat} {x : Node} (h : nodeOkB i x = true) (b : Bool) (s : List Bool) (hj : i ≤ j) : (stepN x b s).getD j false = s.getD j false := by
 unfold stepN markN
 rcases kinds_ h with q | ⟨q, a1, a2, b1, b2⟩ | ⟨q, a1, a2, b1, b2⟩ | ⟨q, a1, a2⟩
 ·rw [if_neg (by rintro ⟨_, h2⟩; exact h2 q)]
 ·split
  ·rw [if_neg (by omega), set_getD (by omega), set_getD (by omega)]
  ·rfl
 ·split
  ·rw [if_neg (by omega), set_getD (by omega), set_getD (by omega)]
  ·rfl
 ·split
  ·first | rw [if_pos q, set_getD (by omega)] | rw [set_getD (by omega)]
  ·rfl
theorem downN_get {l : List Node} (hk : ∀ (i : Nat) (hi : i < l.length), nodeOkB i l[i] = true) : ∀ i s j, i ≤ l.length → i ≤ j → (downN l i s).getD j false = s.getD j false := by
 intro i
 induction i with
 | zero => intro s j _ _; rfl
 | succ i ih =>
  intro s j hi hj
  unfold downN
  rw [ih _ _ (by omega) (by omega)]
  exact stepN_get (by have := hk i (by omega); rwa [getDn_ _ (by omega)]) _ _ (by omega)
theorem risesN_iff {l : List Node} (hk : ∀ (i : Nat) (hi : i < l.length), nodeOkB i l[i] = true) : ∀ i s, i ≤ l.length → (risesN l i s = true ↔ ∀ j, j < i → ¬ ((downN l i s).getD j false = true ∧ (l.getD j zN).f0 = 4)) := by
 intro i
 induction i with
 | zero => intro s _; simp [risesN]
 | succ i ih =>
  intro s hi
  unfold risesN downN
  have hst := stepN_get (i := i) (j := i) (x := l.getD i zN) (by have := hk i (by omega); rwa [getDn_ _ (by omega)]) (s.getD i false) s (Nat.le_refl _)
  have hd := downN_get hk i (stepN (l.getD i zN) (s.getD i false) s) i (by omega) (Nat.le_refl _)
  rw [hst] at hd
  by_cases h : s.getD i false = true ∧ (l.getD i zN).f0 = 4
  ·rw [if_pos h]
   constructor
   ·intro h2; exact absurd h2 (by simp)
   ·intro h2; exact absurd (by rw [hd]; exact h) (h2 i (by omega))
  ·rw [if_neg h, ih _ (by omega)]
   constructor
   ·intro h2 j hj
    rcases Nat.lt_succ_iff_lt_or_eq.1 hj with h3 | rfl
    ·exact h2 j h3
    ·rw [hd]; exact h
   ·intro h2 j hj
    exact h2 j (by omega)
theorem not_and_ (a : Bool) (p : Prop) [Decidable p] : (!(a && decide p)) = true ↔ ¬ (a = true ∧ p) := by cases a <;> simp
def startN (n : Nat) : List Bool := (List.replicate n false).set (n - 1) true
theorem startN_len (n : Nat) : (startN n).length = n := by simp [startN]
def risingB (l : List Node) : Bool := if policyOkB l = true then risesN l l.length (startN l.length) else false
theorem spec_below {l : List Node} (hn : l.length ≤ 40) (hk : ∀ (i : Nat) (hi : i < l.length), nodeOkB i l[i] = true) : ∀ i s, i ≤ l.length → s.length = l.length → Ev (fun k => spec_l21Below.l0 k s ((i : Int) - 1) l) (downN l i s) := by
 intro i
 induction i with
 | zero =>
  intro s _ _
  refine Ev.succ ?_
  simp only [spec_l21Below.l0, show ¬ (((0 : Nat) : Int) - 1 ≥ 0) by omega, ↓reduceIte]
  exact Ev.now _
 | succ i ih =>
  intro s hi hs
  have hi' : i < l.length := by omega
  have hv := ih (stepN (l.getD i zN) (s.getD i false) s) (by omega) (by rw [stepN_len]; exact hs)
  refine Ev.succ ?_
  rw [show (((i + 1 : Nat) : Int) - 1) = (i : Int) by omega]
  simp only [spec_l21Below.l0, ge_iff_le, nat_lt, nat_0, hi', hs, ↓reduceIte, rd_T57, getD_ _ hi', getDn_ _ hi', rdOf, Int.toNat_natCast]
  unfold downN
  rw [getDn_ _ hi'] at hv ⊢
  unfold stepN markN at hv ⊢
  have j1 : ∀ a b c d e, Ev (fun k => spec_l21Below.l0 k s ((i : Int) - 1) l) (downN l i s) → Ev (fun k => spec_l21Below.j1 k s i true l a b c d e) (downN l i s) := by
   intro a b c d e h
   refine Ev.succ ?_
   simp only [spec_l21Below.j1, ↓reduceIte, down_ (show i < 4611686018427387904 by omega)]
   exact h
  by_cases hb : s.getD i false = true
  ·simp only [hb, true_and, ↓reduceIte] at hv ⊢
   rcases kinds_ (hk i hi') with q | ⟨q, a1, a2, b1, b2⟩ | ⟨q, a1, a2, b1, b2⟩ | ⟨q, a1, a2⟩
   ·simp only [q, ne_eq, not_true_eq_false, ↓reduceIte, beq_self_eq_true] at hv ⊢
    exact j1 _ _ _ _ _ hv
   ·simp only [q, ne_eq, show ¬ ((2 : Int) = 1) by omega, show ¬ ((2 : Int) = 4) by omega, not_false_eq_true, ↓reduceIte, show ((2 : Int) == 1) = false by decide] at hv ⊢
    refine Ev.succ ?_
    simp only [spec_l21Below.j1, Bool.false_eq_true, ↓reduceIte, a1, b1, hs, show l[i].f2 < (l.length : Int) by omega, show l[i].f3 < (l.length : Int) by omega, Option.bind_some, show ¬ ((2 : Int) = 4) by omega, down_ (show i < 4611686018427387904 by omega)]
    exact hv
   ·simp only [q, ne_eq, show ¬ ((3 : Int) = 1) by omega, show ¬ ((3 : Int) = 4) by omega, not_false_eq_true, ↓reduceIte, show ((3 : Int) == 1) = false by decide] at hv ⊢
    refine Ev.succ ?_
    simp only [spec_l21Below.j1, Bool.false_eq_true, ↓reduceIte, a1, b1, hs, show l[i].f2 < (l.length : Int) by omega, show l[i].f3 < (l.length : Int) by omega, Option.bind_some, show ¬ ((3 : Int) = 4) by omega, down_ (show i < 4611686018427387904 by omega)]
    exact hv
   ·simp only [q, ne_eq, show ¬ ((4 : Int) = 1) by omega, not_false_eq_true, ↓reduceIte, show ((4 : Int) == 1) = false by decide] at hv ⊢
    refine Ev.succ ?_
    simp only [spec_l21Below.j1, Bool.false_eq_true, ↓reduceIte, a1, hs, show l[i].f2 < (l.length : Int) by omega, Option.bind_some, down_ (show i < 4611686018427387904 by omega)]
    exact hv
  ·simp only [hb, false_and, Bool.false_eq_true, ↓reduceIte] at hv ⊢
   exact j1 _ _ _ _ _ hv
theorem impl_rises {l : List Node} (hn : l.length ≤ 40) (hk : ∀ (i : Nat) (hi : i < l.length), nodeOkB i l[i] = true) : ∀ i s, i ≤ l.length → s.length = l.length → Ev (fun k => impl_Rising.l0 k s ((i : Int) - 1) l) (risesN l i s) := by
 intro i
 induction i with
 | zero =>
  intro s _ _
  refine Ev.succ ?_
  simp only [impl_Rising.l0, show ¬ (((0 : Nat) : Int) - 1 ≥ 0) by omega, ↓reduceIte]
  exact Ev.now _
 | succ i ih =>
  intro s hi hs
  have hi' : i < l.length := by omega
  have hv := ih (stepN (l.getD i zN) (s.getD i false) s) (by omega) (by rw [stepN_len]; exact hs)
  refine Ev.succ ?_
  rw [show (((i + 1 : Nat) : Int) - 1) = (i : Int) by omega]
  simp only [impl_Rising.l0, ge_iff_le, nat_lt, nat_0, hi', hs, ↓reduceIte, rd_T57, getD_ _ hi', getDn_ _ hi', rdOf, Int.toNat_natCast, down_ (show i < 4611686018427387904 by omega)]
  unfold risesN
  rw [getDn_ _ hi'] at hv ⊢
  unfold stepN markN at hv ⊢
  by_cases hb : s.getD i false = true
  ·simp only [hb, true_and, ↓reduceIte] at hv ⊢
   rcases kinds_ (hk i hi') with q | ⟨q, a1, a2, b1, b2⟩ | ⟨q, a1, a2, b1, b2⟩ | ⟨q, a1, a2⟩
   ·simp only [q, ne_eq, not_true_eq_false, ↓reduceIte, show ¬ ((1 : Int) = 4) by omega, show ¬ ((1 : Int) = 2) by omega, show ¬ ((1 : Int) = 3) by omega] at hv ⊢
    exact hv
   ·simp only [q, ne_eq, show ¬ ((2 : Int) = 1) by omega, show ¬ ((2 : Int) = 4) by omega, not_false_eq_true, ↓reduceIte, a1, b1, show l[i].f2 < (l.length : Int) by omega, show l[i].f3 < (l.length : Int) by omega] at hv ⊢
    exact hv
   ·simp only [q, ne_eq, show ¬ ((3 : Int) = 1) by omega, show ¬ ((3 : Int) = 4) by omega, show ¬ ((3 : Int) = 2) by omega, not_false_eq_true, ↓reduceIte, a1, b1, show l[i].f2 < (l.length : Int) by omega, show l[i].f3 < (l.length : Int) by omega] at hv ⊢
    exact hv
   ·simp only [q, ↓reduceIte]
    exact Ev.now _
  ·simp only [hb, false_and, Bool.false_eq_true, ↓reduceIte] at hv ⊢
   exact hv
theorem impl_Ris (l : List Node) (h : l.length ≤ 1048576) : Ev (fun k => impl_Rising.f k l) (risingB l) := by
 unfold impl_Rising.f risingB
 refine Ev.bind (impl_PolicyOk l h) ?_
 cases hp : policyOkB l
 ·simp only [Bool.false_eq_true, ↓reduceIte]
  exact Ev.now _
 ·obtain ⟨hn, hk⟩ := policyOk_nodes hp
  simp only [nat_0, ↓reduceIte, Int.toNat_natCast, show l.length ≤ 281474976710656 by omega, Option.bind_some, List.length_replicate, down_ (show l.length < 4611686018427387904 by omega), show (0 : Int) ≤ (l.length : Int) - 1 by omega, show (l.length : Int) - 1 < (l.length : Int) by omega, show ((l.length : Int) - 1).toNat = l.length - 1 by omega]
  exact impl_rises (by omega) hk l.length (startN l.length) (Nat.le_refl _) (startN_len _)
theorem spec_Ris (l : List Node) (h : l.length ≤ 1048576) : Ev (fun k => spec_Rising.f k l) (risingB l) := by
 unfold spec_Rising.f risingB
 refine Ev.bind (spec_PolicyOk l h) ?_
 cases hp : policyOkB l
 ·simp only [Bool.false_eq_true, ↓reduceIte]
  exact Ev.now _
 ·obtain ⟨hn, hk⟩ := policyOk_nodes hp
  have hb : Ev (fun k => spec_l21Below.f k l) (downN l l.length (startN l.length)) := by
   unfold spec_l21Below.f
   simp only [nat_0, ↓reduceIte, Int.toNat_natCast, show l.length ≤ 281474976710656 by omega, Option.bind_some, List.length_replicate, down_ (show l.length < 4611686018427387904 by omega), show (0 : Int) ≤ (l.length : Int) - 1 by omega, show (l.length : Int) - 1 < (l.length : Int) by omega, show ((l.length : Int) - 1).toNat = l.length - 1 by omega]
   exact spec_below (by omega) hk l.length (startN l.length) (Nat.le_refl _) (startN_len _)
  simp only [↓reduceIte]
  refine Ev.bind hb ?_
  obtain ⟨d, hd⟩ : ∃ d, downN l l.length (startN l.length) = d := ⟨_, rfl⟩
  have hdl : d.length = l.length := by rw [← hd, downN_len, startN_len]
  have e : risesN l l.length (startN l.length) = allFrom (fun j => !(d.getD j false && decide ((l.getD j zN).f0 = 4))) l.length 0 := by
   rw [Bool.eq_iff_iff, risesN_iff hk _ _ (Nat.le_refl _), allFrom_iff l.length 0 rfl, hd]
   constructor
   ·intro h1 j _ hj
    exact (not_and_ _ _).2 (h1 j hj)
   ·intro h1 j hj
    exact (not_and_ _ _).1 (h1 j (Nat.zero_le _) hj)
  rw [e, hd]
  refine Ev.up0 l.length (fun i k => spec_Rising.l0 k d i l) (fun i => allFrom (fun j => !(d.getD j false && decide ((l.getD j zN).f0 = 4))) l.length i) ?_ ?_ 0 (Nat.zero_le _)
  ·intro i hi ih
   refine Ev.succ ?_
   simp only [spec_Rising.l0, nat_lt, nat_0, hi, hdl, ↓reduceIte, rd_T57, getD_ _ hi, getDn_ _ hi, rdOf, Int.toNat_natCast, up_ (show i < 4611686018427387904 by omega)]
   rw [allFrom_lt hi, getDn_ _ hi]
   cases hx : d.getD i false
   ·simp only [Bool.false_eq_true, ↓reduceIte, Bool.false_and, Bool.not_false, Bool.true_and]
    exact ih
   ·by_cases h4 : l[i].f0 = 4
    ·simp only [h4, ↓reduceIte, decide_true, Bool.and_self, Bool.not_true, Bool.false_and]
     exact Ev.now _
    ·simp only [h4, ↓reduceIte, decide_false, Bool.and_false, Bool.not_false, Bool.true_and]
     exact ih
  ·refine Ev.succ ?_
   simp only [spec_Rising.l0, nat_lt, Nat.lt_irrefl, ↓reduceIte]
   rw [allFrom_ge (Nat.lt_irrefl _)]
   exact Ev.now _
end Q
end Go.Proofs.Ytnoklfpnmopkpaa
