/-
Policies read out of a text: the reference holds the policy's own text against it, the program the place behind the last number; both are one plain function.
-/
import Derived.Test.YteppfdkfikeclaaKRQ8
namespace Go.Proofs.Yteppfdkfikeclaa
open Go.RowKit Go.Proofs.YteppfdkfikeclaaW.PrintWords Go.Proofs.YteppfdkfikeclaaW.PrintLast Go.Proofs.YteppfdkfikeclaaW.PrintMore Go.Proofs.Yteppfdkfikeclaa.PL
set_option linter.unusedVariables false
set_option linter.unusedSimpArgs false
namespace Q
/-- So many numbers, from a place on. -/
def varsB (t : ByteArray) : Nat → Int → List Int → List Int × Int × Bool
 | 0, at_, acc => (acc, at_, true)
 | m + 1, at_, acc => if (readVarB t at_).2.2 = true then varsB t m (readVarB t at_).2.1 (acc ++ [(readVarB t at_).1]) else ([], 0, false)
theorem varsB_len (t : ByteArray) : ∀ (m : Nat) (at_ : Int) (acc : List Int), (varsB t m at_ acc).2.2 = true → (varsB t m at_ acc).1.length = acc.length + m := by
 intro m
 induction m with
 | zero => intro at_ acc _; simp [varsB]
 | succ m ih =>
  intro at_ acc h
  unfold varsB at h ⊢
  by_cases h1 : (readVarB t at_).2.2 = true
  ·rw [if_pos h1] at h ⊢
   rw [ih _ _ h]; simp; omega
  ·rw [if_neg h1] at h; simp at h
theorem impl_readVars (t : ByteArray) (ht : t.size ≤ 1048576) (m : Nat) (hm : m ≤ 1000000) (at_ : Int) : Ev (fun k => impl_readVars.f k t at_ m) (varsB t m at_ []) := by
 unfold impl_readVars.f
 have key := Ev.up m (fun i (s : List Int × Int) k => impl_readVars.l0 k t s.2 s.1 m i) (fun i s => varsB t (m - i) s.2 s.1) (fun i s => s.1.length ≤ i) ?_ ?_ 0 ([], at_) (Nat.zero_le _) (by simp)
 ·exact key
 ·rintro i ⟨s, p⟩ hi hs ih
  refine Ev.succ ?_
  simp only [impl_readVars.l0, nat_lt, hi, ↓reduceIte, up_ (show i < 4611686018427387904 by omega)]
  refine Ev.bind (impl_ReadVar t ht p) ?_
  rw [show m - i = (m - (i + 1)) + 1 by omega]
  unfold varsB
  by_cases h1 : (readVarB t p).2.2 = true
  ·have hs' : s.length ≤ i := hs
   simp only [h1, ↓reduceIte, show s.length < 17592186044416 by omega]
   exact ih (s ++ [(readVarB t p).1], (readVarB t p).2.1) (by simp; omega)
  ·simp only [h1, Bool.false_eq_true, ↓reduceIte]
   exact Ev.now _
 ·rintro ⟨s, p⟩ _
  refine Ev.succ ?_
  simp only [impl_readVars.l0, nat_lt, Nat.lt_irrefl, ↓reduceIte, Nat.sub_self, varsB]
  exact Ev.now _
theorem varsB_own (t : ByteArray) : ∀ (m : Nat) (at_ : Int) (acc l : List Int) (next : Int), 0 ≤ at_ → varsB t m at_ acc = (l, next, true) →
  ∃ new, l = acc ++ new ∧ new.length = m ∧ at_ ≤ next ∧ (m = 0 ∨ next ≤ t.size) ∧ t.data.toList.take next.toNat = t.data.toList.take at_.toNat ++ new.flatMap (fun n => (vtB n).data.toList) := by
 intro m
 induction m with
 | zero =>
  intro at_ acc l next h0 h
  simp only [varsB, Prod.mk.injEq, and_true] at h
  obtain ⟨rfl, rfl⟩ := h
  exact ⟨[], by simp, rfl, Int.le_refl _, .inl rfl, by simp⟩
 | succ m ih =>
  intro at_ acc l next h0 h
  unfold varsB at h
  by_cases h1 : (readVarB t at_).2.2 = true
  ·rw [if_pos h1] at h
   have hr : readVarB t at_ = ((readVarB t at_).1, (readVarB t at_).2.1, true) := by rw [← h1]
   obtain ⟨a1, a2, a3, a4, a5, a6⟩ := readVar_own hr
   obtain ⟨new, b1, b2, b3, b4, b5⟩ := ih _ _ _ _ (by omega) h
   refine ⟨(readVarB t at_).1 :: new, by rw [b1]; simp, by simp [b2], by omega, .inr ?_, ?_⟩
   ·rcases b4 with b4 | b4
    ·subst b4
     simp only [varsB, Prod.mk.injEq, and_true] at h
     omega
    ·exact b4
   ·rw [b5, a6, List.flatMap_cons, List.append_assoc]
  ·rw [if_neg h1] at h; simp at h
/-- So many nodes, from a place on. -/
theorem readVar_val {t : ByteArray} {at_ : Int} (h : (readVarB t at_).2.2 = true) : 0 ≤ at_ ∧ at_ < (readVarB t at_).2.1 ∧ (readVarB t at_).2.1 ≤ t.size ∧ 0 ≤ (readVarB t at_).1 ∧ (readVarB t at_).1 ≤ 1000000000 ∧
  t.data.toList.take (readVarB t at_).2.1.toNat = t.data.toList.take at_.toNat ++ (vtB (readVarB t at_).1).data.toList := by
 have hr : readVarB t at_ = ((readVarB t at_).1, (readVarB t at_).2.1, true) := by rw [← h]
 exact readVar_own hr
end Q
end Go.Proofs.Yteppfdkfikeclaa
