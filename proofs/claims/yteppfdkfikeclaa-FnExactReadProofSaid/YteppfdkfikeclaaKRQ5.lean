/-
Steps as texts: the reference's and the program's StepText are one plain function.
-/
import Derived.Test.YteppfdkfikeclaaKRQ4
namespace Go.Proofs.Yteppfdkfikeclaa
open Go.RowKit Go.Proofs.YteppfdkfikeclaaW.PrintWords Go.Proofs.YteppfdkfikeclaaW.PrintLast Go.Proofs.YteppfdkfikeclaaW.PrintMore Go.Proofs.Yteppfdkfikeclaa.PL
set_option linter.unusedVariables false
set_option linter.unusedSimpArgs false
namespace Q
def fromB : List Int → ByteArray → ByteArray × Bool
 | [], acc => (acc, true)
 | x :: xs, acc => if inB x 0 199 = true then fromB xs (acc ++ vtB x) else (⟨#[]⟩, false)
def stepTextB (k a b w c d e f u n p q s : Int) (l : List Int) : ByteArray × Bool :=
 if credOkB k a b w c d e f u n && (p == a && q == b) && inB s 0 5 && decide (l.length ≤ 2) = true then
  fromB l (((vtB (credTextB k a b w c d e f u n).size ++ credTextB k a b w c d e f u n) ++ vtB s) ++ vtB l.length)
 else (⟨#[]⟩, false)
theorem spec_from (l : List Int) (hl : l.length ≤ 2) (s : ByteArray) (hs : s.size ≤ 1000000) (k a b w c d e f u n p q x : Int) : Ev (fun r => spec_StepText.l0 r s 0 k a b w c d e f u n p q x l) (fromB l s) := by
 refine Ev.up l.length (fun i (s : ByteArray) r => spec_StepText.l0 r s i k a b w c d e f u n p q x l) (fun i s => fromB (l.drop i) s) (fun i s => s.size ≤ 1000000 + i * 10000) ?_ ?_ 0 s (Nat.zero_le _) (by omega)
 ·intro i s hi hs ih
  refine Ev.succ ?_
  simp only [spec_StepText.l0, nat_lt, nat_0, hi, ↓reduceIte, rd_ hi, up_ (show i < 4611686018427387904 by omega), spec_in, Option.bind_some]
  rw [List.drop_eq_getElem_cons hi]
  unfold fromB
  cases hb : inB l[i] 0 199
  ·exact Ev.now _
  ·obtain ⟨b0, b1⟩ := inB_iff.1 hb
   have s0 := vtB_mid b0 (by omega)
   simp only [↓reduceIte]
   refine Ev.bind (spec_l01Var _ (by omega) (by omega)) ?_
   simp only [show s.size + (vtB l[i]).size ≤ 9223372036854775807 by omega, ↓reduceIte]
   exact ih (s ++ vtB l[i]) (by simp only [ByteArray.size_append]; omega)
 ·intro s _
  refine Ev.succ ?_
  simp only [spec_StepText.l0, nat_lt, Nat.lt_irrefl, ↓reduceIte, List.drop_length]
  exact Ev.now _
theorem impl_from (l : List Int) (hl : l.length ≤ 2) (s : ByteArray) (hs : s.size ≤ 1000000) : Ev (fun r => impl_StepText.l0 r s l l.length 0) (fromB l s) := by
 refine Ev.up l.length (fun i (s : ByteArray) r => impl_StepText.l0 r s l l.length i) (fun i s => fromB (l.drop i) s) (fun i s => s.size ≤ 1000000 + i * 10000) ?_ ?_ 0 s (Nat.zero_le _) (by omega)
 ·intro i s hi hs ih
  refine Ev.succ ?_
  simp only [impl_StepText.l0, nat_lt, nat_0, hi, ↓reduceIte, rd_ hi, up_ (show i < 4611686018427387904 by omega), impl_in, Option.bind_some]
  rw [List.drop_eq_getElem_cons hi]
  unfold fromB
  cases hb : inB l[i] 0 199
  ·exact Ev.now _
  ·obtain ⟨b0, b1⟩ := inB_iff.1 hb
   have s0 := vtB_mid b0 (by omega)
   simp only [↓reduceIte]
   refine Ev.bind (impl_varText _ (by omega) (by omega)) ?_
   simp only [show s.size + (vtB l[i]).size ≤ 9223372036854775807 by omega, ↓reduceIte]
   exact ih (s ++ vtB l[i]) (by simp only [ByteArray.size_append]; omega)
 ·intro s _
  refine Ev.succ ?_
  simp only [impl_StepText.l0, nat_lt, Nat.lt_irrefl, ↓reduceIte, List.drop_length]
  exact Ev.now _
theorem vtB_100 {n : Nat} (h : n ≤ 100000) : (vtB n).size ≤ 100001 := by have := vtB_size n (by omega); omega
theorem nonempty_ {b : ByteArray} (h : 1 ≤ b.size) : b.toList ≠ ([] : List UInt8) := by
 rw [toList_eq]
 intro e
 have : b.data.toList.length = 0 := by rw [e]; rfl
 rw [Array.length_toList] at this
 have h2 : b.data.size = b.size := rfl
 omega
theorem credText_none {k a b w c d e f u n : Int} (h : credOkB k a b w c d e f u n = false) : credTextB k a b w c d e f u n = ⟨#[]⟩ := by unfold credTextB; simp [h]
theorem empty_list : (⟨#[]⟩ : ByteArray).toList = ([] : List UInt8) := by rw [toList_eq]
theorem ne_role (p q a b : Int) : (!(p == a) || (!(q == b))) = !(p == a && q == b) := by cases (p == a) <;> cases (q == b) <;> rfl
theorem spec_StepText (k a b w c d e f u n p q s : Int) (l : List Int) : Ev (fun r => spec_StepText.f r k a b w c d e f u n p q s l) (stepTextB k a b w c d e f u n p q s l) := by
 have bad : ∀ t, Ev (fun r => spec_StepText.j0 r t true k a b w c d e f u n p q s l) (⟨#[]⟩, false) := by
  intro t
  refine Ev.succ ?_
  simp only [spec_StepText.j0, ↓reduceIte]
  exact Ev.now _
 unfold spec_StepText.f
 refine Ev.bind (spec_CredText k a b w c d e f u n) ?_
 cases h : credOkB k a b w c d e f u n
 ·rw [credText_none h]
  simp only [empty_list, ↓reduceIte]
  unfold stepTextB
  rw [h]
  exact bad _
 ·obtain ⟨z0, z1⟩ := credText_size h
  simp only [nonempty_ z0, ↓reduceIte, ne_role]
  unfold stepTextB
  cases h2 : (p == a && q == b)
  ·simpa [h] using bad _
  ·simp only [Bool.not_true, Bool.false_eq_true, ↓reduceIte, spec_in, Option.bind_some, h, Bool.true_and]
   cases h3 : inB s 0 5
   ·simpa using bad _
   ·by_cases h4 : l.length ≤ 2
    ·simp only [↓reduceIte, show ¬ ((l.length : Int) > 2) by omega, decide_false, h4, decide_true, Bool.true_and]
     obtain ⟨y0, y1⟩ := inB_iff.1 h3
     have s0 := vtB_100 (n := (credTextB k a b w c d e f u n).size) z1
     have s1 := vtB_mid (n := s) (by omega) (by omega)
     have s2 := vtB_100 (n := l.length) (by omega)
     refine Ev.succ ?_
     simp only [spec_StepText.j0, Bool.false_eq_true, ↓reduceIte]
     refine Ev.bind (spec_l01Var _ (by omega) (by omega)) ?_
     refine Ev.ite (fun _ => ?_) (fun h => absurd (by omega) h)
     refine Ev.bind (spec_l01Var _ (by omega) (by omega)) ?_
     refine Ev.ite (fun _ => ?_) (fun h => absurd (by rw [ByteArray.size_append]; omega) h)
     refine Ev.bind (spec_l01Var _ (by omega) (by omega)) ?_
     refine Ev.ite (fun _ => ?_) (fun h => absurd (by rw [ByteArray.size_append, ByteArray.size_append]; omega) h)
     exact spec_from l h4 _ (by rw [ByteArray.size_append, ByteArray.size_append, ByteArray.size_append]; omega) _ _ _ _ _ _ _ _ _ _ _ _ _
    ·simp only [↓reduceIte, show ((l.length : Int) > 2) by omega, decide_true, h4, decide_false, Bool.and_false, Bool.false_eq_true]
     exact bad _
theorem impl_StepText (k a b w c d e f u n p q s : Int) (l : List Int) : Ev (fun r => impl_StepText.f r k a b w c d e f u n p q s l) (stepTextB k a b w c d e f u n p q s l) := by
 have bad : Ev (fun r => impl_StepText.j0 r true k a b w c d e f u n p q s l) (⟨#[]⟩, false) := by
  refine Ev.succ ?_
  simp only [impl_StepText.j0, ↓reduceIte]
  exact Ev.now _
 unfold impl_StepText.f
 refine Ev.bind (impl_CredOk k a b w c d e f u n) ?_
 cases h : credOkB k a b w c d e f u n
 ·unfold stepTextB
  rw [h]
  exact bad
 ·obtain ⟨z0, z1⟩ := credText_size h
  rw [ne_role]
  unfold stepTextB
  cases h2 : (p == a && q == b)
  ·simpa [h] using bad
  ·simp only [Bool.not_true, Bool.false_eq_true, ↓reduceIte, impl_isPerson, Option.bind_some, h, Bool.true_and]
   cases h3 : inB s 0 5
   ·simpa using bad
   ·by_cases h4 : l.length ≤ 2
    ·simp only [↓reduceIte, show ¬ ((l.length : Int) > 2) by omega, decide_false, h4, decide_true, Bool.true_and]
     obtain ⟨y0, y1⟩ := inB_iff.1 h3
     have s0 := vtB_100 (n := (credTextB k a b w c d e f u n).size) z1
     have s1 := vtB_mid (n := s) (by omega) (by omega)
     have s2 := vtB_100 (n := l.length) (by omega)
     refine Ev.succ ?_
     simp only [impl_StepText.j0, Bool.false_eq_true, ↓reduceIte]
     refine Ev.bind (impl_CredText k a b w c d e f u n) ?_
     refine Ev.bind (impl_varText _ (by omega) (by omega)) ?_
     refine Ev.ite (fun _ => ?_) (fun h => absurd (by omega) h)
     refine Ev.bind (impl_varText _ (by omega) (by omega)) ?_
     refine Ev.ite (fun _ => ?_) (fun h => absurd (by rw [ByteArray.size_append]; omega) h)
     refine Ev.bind (impl_varText _ (by omega) (by omega)) ?_
     refine Ev.ite (fun _ => ?_) (fun h => absurd (by rw [ByteArray.size_append, ByteArray.size_append]; omega) h)
     exact impl_from l h4 _ (by rw [ByteArray.size_append, ByteArray.size_append, ByteArray.size_append]; omega)
    ·simp only [↓reduceIte, show ((l.length : Int) > 2) by omega, decide_true, h4, decide_false, Bool.and_false, Bool.false_eq_true]
     exact bad
theorem eqStep_ (k a b w c d e f u n p q s : Int) (l : List Int) (h : l.length ≤ 1048576) : Ev (fun r => laws_eqStep.f r k a b w c d e f u n p q s l k a b w c d e f u n p q s l) true := by
 unfold laws_eqStep.f
 simp only [eqCred_, eqFact_, Option.bind_some, ↓reduceIte]
 refine Ev.bind (eqIntS l h) ?_
 simp only [↓reduceIte]
 exact Ev.now _
end Q
end Go.Proofs.Yteppfdkfikeclaa
