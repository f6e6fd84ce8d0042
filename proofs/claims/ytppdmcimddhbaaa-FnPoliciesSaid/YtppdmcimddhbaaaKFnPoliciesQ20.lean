/-
Rising: what lies below a policy's last node, and whether a not is among it, by the reference and by the program.
-/
import Derived.Test.YtppdmcimddhbaaaKFnPoliciesPEx0
import Derived.Test.YtppdmcimddhbaaaKFnPoliciesZOpen
import Derived.Test.YtppdmcimddhbaaaKFnPoliciesPEx15
import Derived.Test.YtppdmcimddhbaaaKFnPoliciesQ19
namespace Go.Proofs.Ytppdmcimddhbaaa
open Go.RowKit Go.Proofs.YtppdmcimddhbaaaW.PrintWords Go.Proofs.YtppdmcimddhbaaaW.PrintLast Go.Proofs.YtppdmcimddhbaaaW.PrintMore Go.Proofs.Ytppdmcimddhbaaa.PE
set_option linter.unusedVariables false
set_option linter.unusedSimpArgs false
namespace Q
theorem kinds_ {i : Nat} {x : Node} (h : nodeOkB i x = true) : x.f0 = 1 ∨ (x.f0 = 2 ∧ 0 ≤ x.f2 ∧ x.f2 < i ∧ 0 ≤ x.f3 ∧ x.f3 < i) ∨ (x.f0 = 3 ∧ 0 ≤ x.f2 ∧ x.f2 < i ∧ 0 ≤ x.f3 ∧ x.f3 < i) ∨ (x.f0 = 4 ∧ 0 ≤ x.f2 ∧ x.f2 < i) := by
  unfold nodeOkB at h
  by_cases h1 : x.f0 = 1
  · exact .inl h1
  · by_cases h2 : x.f0 = 2
    · simp [h2, inB] at h
      exact .inr (.inl ⟨h2, by omega⟩)
    · by_cases h3 : x.f0 = 3
      · simp [h3, inB] at h
        exact .inr (.inr (.inl ⟨h3, by omega⟩))
      · by_cases h4 : x.f0 = 4
        · simp [h4, inB] at h
          exact .inr (.inr (.inr ⟨h4, by omega⟩))
        · simp [h1, h2, h3, h4] at h
def markN (x : Node) (s : List Bool) : List Bool := if x.f0 = 4 then s.set x.f2.toNat true else (s.set x.f2.toNat true).set x.f3.toNat true
def stepN (x : Node) (b : Bool) (s : List Bool) : List Bool := if b = true ∧ x.f0 ≠ 1 then markN x s else s
def risesN (l : List Node) : Nat → List Bool → Bool
  | 0, _ => true
  | i + 1, s => if s.getD i false = true ∧ (l.getD i zN).f0 = 4 then false else risesN l i (stepN (l.getD i zN) (s.getD i false) s)
theorem stepN_len (x : Node) (b : Bool) (s : List Bool) : (stepN x b s).length = s.length := by
  unfold stepN markN
  split
  · split <;> simp
  · rfl
def startN (n : Nat) : List Bool := (List.replicate n false).set (n - 1) true
theorem startN_len (n : Nat) : (startN n).length = n := by simp [startN]
def risingB (l : List Node) : Bool := if policyOkB l = true then risesN l l.length (startN l.length) else false
theorem impl_rises {l : List Node} (hn : l.length ≤ 40) (hk : ∀ (i : Nat) (hi : i < l.length), nodeOkB i l[i] = true) : ∀ i s, i ≤ l.length → s.length = l.length → Ev (fun k => impl_Rising.l0 k s ((i : Int) - 1) l) (risesN l i s) := by
  intro i
  induction i with
  | zero =>
    intro s _ _
    refine Ev.succ ?_
    simp only [impl_Rising.l0, show ¬ (((0 : Nat) : Int) - 1 ≥ 0) by omega, ↓reduceIte]
    exact Ev.now _
  | succ i ih =>
    intro s hi hs
    have hi' : i < l.length := by omega
    have hv := ih (stepN (l.getD i zN) (s.getD i false) s) (by omega) (by rw [stepN_len]; exact hs)
    refine Ev.succ ?_
    rw [show (((i + 1 : Nat) : Int) - 1) = (i : Int) by omega]
    simp only [impl_Rising.l0, ge_iff_le, nat_lt, nat_0, hi', hs, ↓reduceIte, rd_T71, getD_ _ hi', getDn_ _ hi', rdOf, Int.toNat_natCast, down_ (show i < 4611686018427387904 by omega)]
    unfold risesN
    rw [getDn_ _ hi'] at hv ⊢
    unfold stepN markN at hv ⊢
    by_cases hb : s.getD i false = true
    · simp only [hb, true_and, ↓reduceIte] at hv ⊢
      rcases kinds_ (hk i hi') with q | ⟨q, a1, a2, b1, b2⟩ | ⟨q, a1, a2, b1, b2⟩ | ⟨q, a1, a2⟩
      · simp only [q, ne_eq, not_true_eq_false, ↓reduceIte, show ¬ ((1 : Int) = 4) by omega, show ¬ ((1 : Int) = 2) by omega, show ¬ ((1 : Int) = 3) by omega] at hv ⊢
        exact hv
      · simp only [q, ne_eq, show ¬ ((2 : Int) = 1) by omega, show ¬ ((2 : Int) = 4) by omega, not_false_eq_true, ↓reduceIte, a1, b1, show l[i].f2 < (l.length : Int) by omega, show l[i].f3 < (l.length : Int) by omega] at hv ⊢
        exact hv
      · simp only [q, ne_eq, show ¬ ((3 : Int) = 1) by omega, show ¬ ((3 : Int) = 4) by omega, show ¬ ((3 : Int) = 2) by omega, not_false_eq_true, ↓reduceIte, a1, b1, show l[i].f2 < (l.length : Int) by omega, show l[i].f3 < (l.length : Int) by omega] at hv ⊢
        exact hv
      · simp only [q, ↓reduceIte]
        exact Ev.now _
    · simp only [hb, false_and, Bool.false_eq_true, ↓reduceIte] at hv ⊢
      exact hv
theorem impl_Ris (l : List Node) (h : l.length ≤ 1048576) : Ev (fun k => impl_Rising.f k l) (risingB l) := by
  unfold impl_Rising.f risingB
  refine Ev.bind (impl_PolicyOk l h) ?_
  cases hp : policyOkB l
  · simp only [Bool.false_eq_true, ↓reduceIte]
    exact Ev.now _
  · obtain ⟨hn, hk⟩ := policyOk_nodes hp
    simp only [nat_0, ↓reduceIte, Int.toNat_natCast, show l.length ≤ 281474976710656 by omega, Option.bind_some, List.length_replicate, down_ (show l.length < 4611686018427387904 by omega), show (0 : Int) ≤ (l.length : Int) - 1 by omega, show (l.length : Int) - 1 < (l.length : Int) by omega, show ((l.length : Int) - 1).toNat = l.length - 1 by omega]
    exact impl_rises (by omega) hk l.length (startN l.length) (Nat.le_refl _) (startN_len _)
end Q
end Go.Proofs.Ytppdmcimddhbaaa
