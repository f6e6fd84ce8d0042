/-
Steps out of their texts, and proofs: the reference and the program read the same.
-/
import Derived.Test.YteppfdkfikeclaaKRQ46
namespace Go.Proofs.Yteppfdkfikeclaa
open Go.RowKit Go.Proofs.YteppfdkfikeclaaW.PrintWords Go.Proofs.YteppfdkfikeclaaW.PrintLast Go.Proofs.YteppfdkfikeclaaW.PrintMore Go.Proofs.Yteppfdkfikeclaa.PL
set_option linter.unusedVariables false
set_option linter.unusedSimpArgs false
namespace Q
def stepR (t : ByteArray) (at_ : Int) : Option (Step × Int) :=
 if (shortB t at_).2.2 = true ∧ (readCredB (shortB t at_).1).2 = true then
  (if (varsB t 2 (shortB t at_).2.1 []).2.2 = true ∧ rd (varsB t 2 (shortB t at_).2.1 []).1 1 ≤ 2 then
   (if (varsB t (rd (varsB t 2 (shortB t at_).2.1 []).1 1).toNat (varsB t 2 (shortB t at_).2.1 []).2.1 []).2.2 = true then
    some (⟨(readCredB (shortB t at_).1).1, ⟨(readCredB (shortB t at_).1).1.f1, rd (varsB t 2 (shortB t at_).2.1 []).1 0⟩, (varsB t (rd (varsB t 2 (shortB t at_).2.1 []).1 1).toNat (varsB t 2 (shortB t at_).2.1 []).2.1 []).1⟩, (varsB t (rd (varsB t 2 (shortB t at_).2.1 []).1 1).toNat (varsB t 2 (shortB t at_).2.1 []).2.1 []).2.1)
   else none)
  else none)
 else none
theorem fromB_list : ∀ (l : List Int) (acc : ByteArray), (fromB l acc).2 = true → L8 (fromB l acc).1 = L8 acc ++ l.flatMap (fun n => L8 (vtB n)) := by
 intro l
 induction l with
 | nil => intro acc _; simp [fromB]
 | cons x xs ih =>
  intro acc h
  unfold fromB at h ⊢
  by_cases hx : inB x 0 199 = true
  ·rw [if_pos hx] at h ⊢
   rw [ih _ h, L8_app, List.flatMap_cons, List.append_assoc]
  ·rw [if_neg hx] at h
   exact absurd h (by simp)
theorem stB_list {s : Step} (h : (stB s).2 = true) : L8 (stB s).1 = L8 (vtB (textC s.f0).size) ++ (L8 (textC s.f0) ++ (L8 (vtB s.f1.f1) ++ (L8 (vtB (s.f2.length : Int)) ++ s.f2.flatMap (fun n => L8 (vtB n))))) := by
 unfold stB stepTextB at h ⊢
 split at h
 ·rename_i hok
  rw [if_pos hok, fromB_list _ _ h, L8_app, L8_app, L8_app]
  simp only [List.append_assoc]
  rfl
 ·exact absurd h (by simp)
theorem two_ {l : List Int} (h : l.length = 2) : l = [rd l 0, rd l 1] := by
 match l, h with
 | [a, b], _ => rfl
theorem vars_nn (t : ByteArray) : ∀ (m : Nat) (at_ : Int) (acc : List Int), (∀ x ∈ acc, 0 ≤ x) → ∀ x ∈ (varsB t m at_ acc).1, 0 ≤ x := by
 intro m
 induction m with
 | zero => intro at_ acc h; exact h
 | succ m ih =>
  intro at_ acc h
  unfold varsB
  by_cases h1 : (readVarB t at_).2.2 = true
  ·rw [if_pos h1]
   refine ih _ _ ?_
   intro x hx
   rcases List.mem_append.1 hx with hx | hx
   ·exact h x hx
   ·rw [List.mem_singleton] at hx
    rw [hx]
    exact (readVar_val h1).2.2.2.1
  ·rw [if_neg h1]
   intro x hx
   exact absurd hx (by simp)
theorem rd1_nn {t : ByteArray} {at_ : Int} (h : (varsB t 2 at_ []).2.2 = true) : 0 ≤ rd (varsB t 2 at_ []).1 1 := by
 have hl := varsB_len t 2 at_ [] h
 simp only [List.length_nil, Nat.zero_add] at hl
 have h2 := two_ hl
 exact vars_nn t 2 at_ [] (by simp) _ (by rw [h2]; simp [rd])
theorem stepR_own {t : ByteArray} {at_ e : Int} {s : Step} (h : stepR t at_ = some (s, e)) : 0 ≤ at_ ∧ at_ < e ∧ e ≤ t.size ∧ s.f2.length ≤ 2 ∧ ((stB s).2 = true → (L8 t).take e.toNat = (L8 t).take at_.toNat ++ L8 (stB s).1) := by
 unfold stepR at h
 by_cases hc : (shortB t at_).2.2 = true ∧ (readCredB (shortB t at_).1).2 = true
 ·rw [if_pos hc] at h
  by_cases hv : (varsB t 2 (shortB t at_).2.1 []).2.2 = true ∧ rd (varsB t 2 (shortB t at_).2.1 []).1 1 ≤ 2
  ·rw [if_pos hv] at h
   by_cases hf : (varsB t (rd (varsB t 2 (shortB t at_).2.1 []).1 1).toNat (varsB t 2 (shortB t at_).2.1 []).2.1 []).2.2 = true
   ·rw [if_pos hf] at h
    obtain ⟨a1, a2, a3, a4⟩ := shortB_own (show shortB t at_ = ((shortB t at_).1, (shortB t at_).2.1, true) by rw [← hc.1])
    obtain ⟨c1, c2⟩ := readCred_own hc.2
    have hn := rd1_nn hv.1
    have hl := varsB_len t 2 (shortB t at_).2.1 [] hv.1
    simp only [List.length_nil, Nat.zero_add] at hl
    obtain ⟨n2, b1, b2, b3, b4, b5⟩ := varsB_own t 2 (shortB t at_).2.1 [] _ _ (by omega) (show varsB t 2 (shortB t at_).2.1 [] = ((varsB t 2 (shortB t at_).2.1 []).1, (varsB t 2 (shortB t at_).2.1 []).2.1, true) by rw [← hv.1])
    obtain ⟨n3, d1, d2, d3, d4, d5⟩ := varsB_own t (rd (varsB t 2 (shortB t at_).2.1 []).1 1).toNat (varsB t 2 (shortB t at_).2.1 []).2.1 [] _ _ (by omega) (show varsB t (rd (varsB t 2 (shortB t at_).2.1 []).1 1).toNat (varsB t 2 (shortB t at_).2.1 []).2.1 [] = ((varsB t (rd (varsB t 2 (shortB t at_).2.1 []).1 1).toNat (varsB t 2 (shortB t at_).2.1 []).2.1 []).1, (varsB t (rd (varsB t 2 (shortB t at_).2.1 []).1 1).toNat (varsB t 2 (shortB t at_).2.1 []).2.1 []).2.1, true) by rw [← hf])
    rw [List.nil_append] at b1 d1
    obtain ⟨n, hnn⟩ := Int.eq_ofNat_of_zero_le hn
    have hn2 := hv.2
    simp only [Option.some.injEq, Prod.mk.injEq] at h
    obtain ⟨rfl, rfl⟩ := h
    refine ⟨a1, by omega, ?_, ?_, ?_⟩
    ·rcases d4 with d4 | d4
     ·rw [d4]
      rcases b4 with b4 | b4
      ·omega
      ·exact b4
     ·exact d4
    ·show (varsB t (rd (varsB t 2 (shortB t at_).2.1 []).1 1).toNat (varsB t 2 (shortB t at_).2.1 []).2.1 []).1.length ≤ 2
     rw [d1, d2]
     omega
    ·intro hst
     have b6 : n2 = [rd (varsB t 2 (shortB t at_).2.1 []).1 0, rd (varsB t 2 (shortB t at_).2.1 []).1 1] := by rw [← b1]; exact two_ hl
     rw [d5, b5, a4, ← d1, b6]
     rw [stB_list hst]
     show _ = (L8 t).take at_.toNat ++ (L8 (vtB (textC (readCredB (shortB t at_).1).1).size) ++ (L8 (textC (readCredB (shortB t at_).1).1) ++ (L8 (vtB (rd (varsB t 2 (shortB t at_).2.1 []).1 0)) ++ (L8 (vtB ((varsB t (rd (varsB t 2 (shortB t at_).2.1 []).1 1).toNat (varsB t 2 (shortB t at_).2.1 []).2.1 []).1.length : Int)) ++ (varsB t (rd (varsB t 2 (shortB t at_).2.1 []).1 1).toNat (varsB t 2 (shortB t at_).2.1 []).2.1 []).1.flatMap (fun n => L8 (vtB n))))))
     have e2 : (textC (readCredB (shortB t at_).1).1).size = (shortB t at_).1.size := by rw [← L8_len, ← L8_len, c2]
     have e3 : ((varsB t (rd (varsB t 2 (shortB t at_).2.1 []).1 1).toNat (varsB t 2 (shortB t at_).2.1 []).2.1 []).1.length : Int) = rd (varsB t 2 (shortB t at_).2.1 []).1 1 := by rw [d1, d2]; omega
     rw [c2, e2, e3]
     simp only [List.flatMap_cons, List.flatMap_nil, List.append_assoc, List.append_nil]
   ·rw [if_neg hf] at h
    exact absurd h (by simp)
  ·rw [if_neg hv] at h
   exact absurd h (by simp)
 ·rw [if_neg hc] at h
  exact absurd h (by simp)
def tupS (s : Step) (e : Int) : Int × Int × Int × Int × Int × Int × Int × Int × Int × Int × Int × Int × Int × List Int × Int := (s.f0.f0, s.f0.f1.f0, s.f0.f1.f1, s.f0.f2, s.f0.f3.f0, s.f0.f3.f1, s.f0.f4.f0, s.f0.f4.f1, s.f0.f5, s.f0.f6, s.f1.f0.f0, s.f1.f0.f1, s.f1.f1, s.f2, e)
def z0S : Step := ⟨z0C, ⟨⟨0, 0⟩, 0⟩, []⟩
def specStep (t : ByteArray) (at_ : Int) : Int × Int × Int × Int × Int × Int × Int × Int × Int × Int × Int × Int × Int × List Int × Int := match stepR t at_ with
 | some (s, e) => tupS s e
 | none => tupS z0S (-1)
theorem spec_from0 (t : ByteArray) (ht : t.size ≤ 1048576) (n : Nat) (hn : n ≤ 2) (c : Crd) (who : Int) (at0 : Int) (R : Int × Int × Int × Int × Int × Int × Int × Int × Int × Int × Int × Int × Int × List Int × Int)
  (hR : R = if (varsB t n at0 []).2.2 = true then tupS ⟨c, ⟨c.f1, who⟩, (varsB t n at0 []).1⟩ (varsB t n at0 []).2.1 else tupS z0S (-1)) : ∀ (d i : Nat) (acc : List Int) (at_ : Int), n - i = d → i ≤ n → acc.length = i → varsB t d at_ acc = varsB t n at0 [] →
  Ev (fun k => spec_l22Step.l0 k t n at_ i 0 0 0 0 0 0 0 0 0 0 0 0 0 c.f0 c.f1.f0 c.f1.f1 c.f2 c.f3.f0 c.f3.f1 c.f4.f0 c.f4.f1 c.f5 c.f6 c.f1.f0 c.f1.f1 who acc) R := by
 intro d
 induction d with
 | zero =>
  intro i acc at_ hd hi ha hv
  have e1 : varsB t n at0 [] = (acc, at_, true) := by rw [← hv]; rfl
  refine Ev.succ ?_
  simp only [spec_l22Step.l0, nat_lt, show ¬ i < n by omega, ↓reduceIte]
  rw [hR, e1]
  simp only [↓reduceIte]
  exact Ev.now _
 | succ d ih =>
  intro i acc at_ hd hi ha hv
  replace hv : (if (readVarB t at_).2.2 = true then varsB t d (readVarB t at_).2.1 (acc ++ [(readVarB t at_).1]) else ([], 0, false)) = varsB t n at0 [] := hv
  refine Ev.succ ?_
  simp only [spec_l22Step.l0, nat_lt, show i < n by omega, ↓reduceIte]
  refine Ev.bind (spec_ReadVar t ht at_) ?_
  by_cases h1 : (readVarB t at_).2.2 = true
  ·rw [if_pos h1] at hv
   simp only [h1, ↓reduceIte, show acc.length < 17592186044416 by omega, up_ (show i < 4611686018427387904 by omega)]
   exact ih (i + 1) _ _ (by omega) (by omega) (by simp [ha]) hv
  ·rw [if_neg h1] at hv
   simp only [h1, Bool.false_eq_true, ↓reduceIte]
   rw [hR, ← hv]
   simp only [Bool.false_eq_true, ↓reduceIte]
   exact Ev.now _
theorem spec_Step (t : ByteArray) (ht : t.size ≤ 1048576) (at_ : Int) : Ev (fun k => spec_l22Step.f k t at_) (specStep t at_) := by
 have hs := shortB_size t at_
 unfold spec_l22Step.f specStep stepR
 refine Ev.bind (spec_Short t ht at_) ?_
 by_cases h1 : (shortB t at_).2.2 = true
 ·simp only [h1, ↓reduceIte, true_and]
  refine Ev.bind (spec_RCred (shortB t at_).1 (by omega)) ?_
  refine Ev.bind (spec_ReadVar t ht (shortB t at_).2.1) ?_
  simp only [tupC]
  by_cases h2 : (readCredB (shortB t at_).1).2 = true
  ·simp only [h2, ↓reduceIte]
   refine Ev.succ ?_
   by_cases h3 : (readVarB t (shortB t at_).2.1).2.2 = true
   ·simp only [spec_l22Step.j0, h3, Bool.not_true, Bool.false_eq_true, ↓reduceIte]
    refine Ev.bind (spec_ReadVar t ht _) ?_
    by_cases h4 : (readVarB t (readVarB t (shortB t at_).2.1).2.1).2.2 = true
    ·have hv : varsB t 2 (shortB t at_).2.1 [] = ([(readVarB t (shortB t at_).2.1).1, (readVarB t (readVarB t (shortB t at_).2.1).2.1).1], (readVarB t (readVarB t (shortB t at_).2.1).2.1).2.1, true) := by
      simp only [varsB, h3, h4, ↓reduceIte, List.nil_append, List.cons_append]
     have v4 := readVar_val h4
     rw [hv]
     simp only [h4, ↓reduceIte, true_and]
     refine Ev.succ ?_
     have hrd : rd [(readVarB t (shortB t at_).2.1).1, (readVarB t (readVarB t (shortB t at_).2.1).2.1).1] 1 = (readVarB t (readVarB t (shortB t at_).2.1).2.1).1 := rfl
     have hrd0 : rd [(readVarB t (shortB t at_).2.1).1, (readVarB t (readVarB t (shortB t at_).2.1).2.1).1] 0 = (readVarB t (shortB t at_).2.1).1 := rfl
     rw [hrd, hrd0]
     obtain ⟨n, hn⟩ := Int.eq_ofNat_of_zero_le v4.2.2.2.1
     by_cases h5 : (readVarB t (readVarB t (shortB t at_).2.1).2.1).1 > 2
     ·simp only [spec_l22Step.j1, h5, decide_true, ↓reduceIte, show ¬ ((readVarB t (readVarB t (shortB t at_).2.1).2.1).1 ≤ 2) by omega]
      exact Ev.now _
     ·simp only [spec_l22Step.j1, h5, decide_false, Bool.false_eq_true, ↓reduceIte, show (readVarB t (readVarB t (shortB t at_).2.1).2.1).1 ≤ 2 by omega]
      rw [hn, Int.toNat_natCast]
      refine spec_from0 t ht n (by omega) (readCredB (shortB t at_).1).1 _ (readVarB t (readVarB t (shortB t at_).2.1).2.1).2.1 _ ?_ n 0 [] _ rfl (Nat.zero_le _) rfl rfl
      by_cases h6 : (varsB t n (readVarB t (readVarB t (shortB t at_).2.1).2.1).2.1 []).2.2 = true
      ·simp only [h6, ↓reduceIte]
      ·simp only [h6, Bool.false_eq_true, ↓reduceIte]
    ·have hv : (varsB t 2 (shortB t at_).2.1 []).2.2 = false := by
      simp only [varsB, h3, h4, ↓reduceIte, Bool.false_eq_true]
     rw [hv]
     simp only [h4, Bool.false_eq_true, ↓reduceIte, false_and]
     refine Ev.succ ?_
     simp only [spec_l22Step.j1, ↓reduceIte]
     exact Ev.now _
   ·have hv : (varsB t 2 (shortB t at_).2.1 []).2.2 = false := by
     simp only [varsB, h3, ↓reduceIte, Bool.false_eq_true]
    rw [hv]
    simp only [spec_l22Step.j0, h3, Bool.not_false, ↓reduceIte, Bool.false_eq_true, false_and]
    exact Ev.now _
  ·simp only [h2, Bool.false_eq_true, ↓reduceIte]
   refine Ev.succ ?_
   simp only [spec_l22Step.j0, ↓reduceIte]
   exact Ev.now _
 ·simp only [h1, Bool.false_eq_true, ↓reduceIte, false_and]
  exact Ev.now _
def implStep (t : ByteArray) (at_ : Int) : Int × Int × Int × Int × Int × Int × Int × Int × Int × Int × Int × Int × Int × List Int × Int × Bool := match stepR t at_ with
 | some (s, e) => if (stB s).2 = true then (s.f0.f0, s.f0.f1.f0, s.f0.f1.f1, s.f0.f2, s.f0.f3.f0, s.f0.f3.f1, s.f0.f4.f0, s.f0.f4.f1, s.f0.f5, s.f0.f6, s.f1.f0.f0, s.f1.f0.f1, s.f1.f1, s.f2, e, true) else (0, 0, 0, 0, 0, 0, 0, 0, 0, 0, 0, 0, 0, [], 0, false)
 | none => (0, 0, 0, 0, 0, 0, 0, 0, 0, 0, 0, 0, 0, [], 0, false)
theorem impl_Step (t : ByteArray) (ht : t.size ≤ 1048576) (at_ : Int) : Ev (fun k => impl_readStep.f k t at_) (implStep t at_) := by
 have hs := shortB_size t at_
 unfold impl_readStep.f implStep stepR
 refine Ev.bind (impl_Short t ht at_) ?_
 refine Ev.bind (impl_RCred (shortB t at_).1 (by omega)) ?_
 refine Ev.bind (impl_readVars t ht 2 (by omega) (shortB t at_).2.1) ?_
 have bad : ∀ (a : Int) (l : List Int) (c1 c2 c3 c4 c5 c6 c7 c8 c9 c10 : Int), Ev (fun k => impl_readStep.j0 k t a l true c1 c2 c3 c4 c5 c6 c7 c8 c9 c10) (0, 0, 0, 0, 0, 0, 0, 0, 0, 0, 0, 0, 0, [], 0, false) := by
  intro a l c1 c2 c3 c4 c5 c6 c7 c8 c9 c10
  refine Ev.succ ?_
  simp only [impl_readStep.j0, ↓reduceIte]
  exact Ev.now _
 simp only [tupC]
 by_cases h1 : (shortB t at_).2.2 = true
 ·by_cases h2 : (readCredB (shortB t at_).1).2 = true
  ·by_cases h3 : (varsB t 2 (shortB t at_).2.1 []).2.2 = true
   ·have hl := varsB_len t 2 (shortB t at_).2.1 [] h3
    simp only [List.length_nil, Nat.zero_add] at hl
    have hn := rd1_nn h3
    simp only [h1, h2, h3, ↓reduceIte, hl, show (1 : Int) < ((2 : Nat) : Int) by omega, true_and]
    by_cases h4 : rd (varsB t 2 (shortB t at_).2.1 []).1 1 > 2
    ·simp only [h4, decide_true, show ¬ (rd (varsB t 2 (shortB t at_).2.1 []).1 1 ≤ 2) by omega, ↓reduceIte]
     exact bad _ _ _ _ _ _ _ _ _ _ _ _
    ·simp only [h4, decide_false, show rd (varsB t 2 (shortB t at_).2.1 []).1 1 ≤ 2 by omega, ↓reduceIte]
     obtain ⟨n, hnn⟩ := Int.eq_ofNat_of_zero_le hn
     refine Ev.succ ?_
     simp only [impl_readStep.j0, Bool.false_eq_true, ↓reduceIte, hl, show (1 : Int) < ((2 : Nat) : Int) by omega, show (0 : Int) < ((2 : Nat) : Int) by omega]
     rw [hnn, Int.toNat_natCast]
     refine Ev.bind (impl_readVars t ht n (by omega) _) ?_
     refine Ev.bind (impl_StepText _ _ _ _ _ _ _ _ _ _ _ _ _ _) ?_
     by_cases h5 : (varsB t n (varsB t 2 (shortB t at_).2.1 []).2.1 []).2.2 = true
     ·simp only [h5, ↓reduceIte, stB]
      split
      ·rename_i hq
       simp only [hq, ↓reduceIte]
       exact Ev.now _
      ·rename_i hq
       simp only [hq, Bool.false_eq_true, ↓reduceIte]
       exact Ev.now _
     ·simp only [h5, Bool.false_eq_true, ↓reduceIte, ite_self]
      exact Ev.now _
   ·simp only [h1, h2, h3, Bool.false_eq_true, ↓reduceIte, true_and, false_and]
    exact bad _ _ _ _ _ _ _ _ _ _ _ _
  ·simp only [h1, h2, Bool.false_eq_true, ↓reduceIte, and_false]
   exact bad _ _ _ _ _ _ _ _ _ _ _ _
 ·simp only [h1, Bool.false_eq_true, ↓reduceIte, false_and]
  exact bad _ _ _ _ _ _ _ _ _ _ _ _
end Q
end Go.Proofs.Yteppfdkfikeclaa
