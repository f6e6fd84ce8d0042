/-
Proofs out of their texts: the reference and the program read the same.
-/
import Derived.Test.YteppfdkfikeclaaKRQ9
namespace Go.Proofs.Yteppfdkfikeclaa
open Go.RowKit Go.Proofs.YteppfdkfikeclaaW.PrintWords Go.Proofs.YteppfdkfikeclaaW.PrintLast Go.Proofs.YteppfdkfikeclaaW.PrintMore Go.Proofs.Yteppfdkfikeclaa.PL
set_option linter.unusedVariables false
set_option linter.unusedSimpArgs false
namespace Q
abbrev Crd := S31
abbrev L8 (b : ByteArray) : List UInt8 := b.data.toList
theorem L8_len (b : ByteArray) : (L8 b).length = b.size := by rw [Array.length_toList]; rfl
theorem L8_app (a b : ByteArray) : L8 (a ++ b) = L8 a ++ L8 b := by show (a ++ b).data.toList = _; rw [ByteArray.data_append, Array.toList_append]
def shortB (t : ByteArray) (at_ : Int) : ByteArray × Int × Bool :=
 if (readVarB t at_).2.2 = true ∧ (readVarB t at_).1 ≤ 20000 ∧ (readVarB t at_).1 ≤ (t.size : Int) - (readVarB t at_).2.1 then
  (t.extract (readVarB t at_).2.1.toNat ((readVarB t at_).2.1 + (readVarB t at_).1).toNat, (readVarB t at_).2.1 + (readVarB t at_).1, true)
 else (⟨#[]⟩, 0, false)
theorem spec_Short (t : ByteArray) (ht : t.size ≤ 1048576) (at_ : Int) : Ev (fun k => spec_ReadShort.f k t at_) (shortB t at_) := by
 unfold spec_ReadShort.f shortB
 refine Ev.bind (spec_ReadVar t ht at_) ?_
 by_cases h1 : (readVarB t at_).2.2 = true
 ·obtain ⟨v0, v1, v2, v3, v4, _⟩ := readVar_val h1
  simp only [h1, ↓reduceIte, true_and, w64 (n := (t.size : Int) - (readVarB t at_).2.1) (by omega) (by omega), w64 (n := (readVarB t at_).2.1 + (readVarB t at_).1) (by omega) (by omega)]
  by_cases h2 : (readVarB t at_).1 > 20000
  ·simp only [h2, ↓reduceIte, show ¬ ((readVarB t at_).1 ≤ 20000) by omega, false_and]
   exact Ev.now _
  ·by_cases h3 : (readVarB t at_).1 > (t.size : Int) - (readVarB t at_).2.1
   ·simp only [h2, h3, ↓reduceIte, show ¬ ((readVarB t at_).1 ≤ (t.size : Int) - (readVarB t at_).2.1) by omega, and_false]
    exact Ev.now _
   ·simp only [h2, h3, ↓reduceIte, show (readVarB t at_).1 ≤ 20000 by omega, show (readVarB t at_).1 ≤ (t.size : Int) - (readVarB t at_).2.1 by omega, and_self, show 0 ≤ (readVarB t at_).2.1 by omega, show (readVarB t at_).2.1 ≤ (readVarB t at_).2.1 + (readVarB t at_).1 by omega, show (readVarB t at_).2.1 + (readVarB t at_).1 ≤ (t.size : Int) by omega]
    exact Ev.now _
 ·simp only [h1, Bool.false_eq_true, ↓reduceIte, false_and]
  exact Ev.now _
theorem impl_Short (t : ByteArray) (ht : t.size ≤ 1048576) (at_ : Int) : Ev (fun k => impl_ReadShort.f k t at_) (shortB t at_) := by
 unfold impl_ReadShort.f shortB
 refine Ev.bind (impl_ReadVar t ht at_) ?_
 by_cases h1 : (readVarB t at_).2.2 = true
 ·obtain ⟨v0, v1, v2, v3, v4, _⟩ := readVar_val h1
  simp only [h1, ↓reduceIte, true_and, w64 (n := (t.size : Int) - (readVarB t at_).2.1) (by omega) (by omega), w64 (n := (readVarB t at_).2.1 + (readVarB t at_).1) (by omega) (by omega)]
  by_cases h2 : (readVarB t at_).1 > 20000
  ·simp only [h2, ↓reduceIte, show ¬ ((readVarB t at_).1 ≤ 20000) by omega, false_and]
   exact Ev.now _
  ·by_cases h3 : (readVarB t at_).1 > (t.size : Int) - (readVarB t at_).2.1
   ·simp only [h2, h3, ↓reduceIte, show ¬ ((readVarB t at_).1 ≤ (t.size : Int) - (readVarB t at_).2.1) by omega, and_false]
    exact Ev.now _
   ·simp only [h2, h3, ↓reduceIte, show (readVarB t at_).1 ≤ 20000 by omega, show (readVarB t at_).1 ≤ (t.size : Int) - (readVarB t at_).2.1 by omega, and_self, show 0 ≤ (readVarB t at_).2.1 by omega, show (readVarB t at_).2.1 ≤ (readVarB t at_).2.1 + (readVarB t at_).1 by omega, show (readVarB t at_).2.1 + (readVarB t at_).1 ≤ (t.size : Int) by omega]
    exact Ev.now _
 ·simp only [h1, Bool.false_eq_true, ↓reduceIte, false_and]
  exact Ev.now _
theorem shortB_size (t : ByteArray) (at_ : Int) : (shortB t at_).1.size ≤ t.size := by
 unfold shortB
 split
 ·rw [ByteArray.size_extract]; omega
 ·exact Nat.zero_le _
theorem shortB_own {t x : ByteArray} {at_ next : Int} (h : shortB t at_ = (x, next, true)) : 0 ≤ at_ ∧ at_ < next ∧ next ≤ t.size ∧ (L8 t).take next.toNat = (L8 t).take at_.toNat ++ (L8 (vtB x.size) ++ L8 x) := by
 unfold shortB at h
 split at h
 ·rename_i hc
  obtain ⟨h1, h2, h3⟩ := hc
  obtain ⟨v0, v1, v2, v3, v4, v5⟩ := readVar_val h1
  simp only [Prod.mk.injEq, and_true] at h
  obtain ⟨rfl, rfl⟩ := h
  obtain ⟨a, ha⟩ := Int.eq_ofNat_of_zero_le (show 0 ≤ (readVarB t at_).2.1 by omega)
  obtain ⟨n, hn⟩ := Int.eq_ofNat_of_zero_le v3
  rw [ha, hn] at h3 v5 ⊢
  rw [ha] at v1 v2
  refine ⟨v0, by omega, by omega, ?_⟩
  have e1 : ((a : Int) + (n : Int)).toNat = a + n := by omega
  have e2 : (t.extract a (a + n)).size = n := by rw [ByteArray.size_extract]; omega
  rw [e1, Int.toNat_natCast] at *
  rw [e2, ← List.append_assoc, ← v5, List.take_add]
  congr 1
  show _ = (t.extract a (a + n)).data.toList
  rw [ByteArray.data_extract, Array.toList_extract, List.extract_eq_take_drop, Nat.add_sub_cancel_left]
 ·simp at h
def credOf (l : List Int) : Crd := ⟨rd l 0, ⟨rd l 1, rd l 2⟩, rd l 3, ⟨rd l 4, rd l 5⟩, ⟨rd l 6, rd l 7⟩, rd l 8, rd l 9⟩
def okC (c : Crd) : Bool := credOkB c.f0 c.f1.f0 c.f1.f1 c.f2 c.f3.f0 c.f3.f1 c.f4.f0 c.f4.f1 c.f5 c.f6
def textC (c : Crd) : ByteArray := credTextB c.f0 c.f1.f0 c.f1.f1 c.f2 c.f3.f0 c.f3.f1 c.f4.f0 c.f4.f1 c.f5 c.f6
def z0C : Crd := ⟨0, ⟨0, 0⟩, 0, ⟨0, 0⟩, ⟨0, 0⟩, 0, 0⟩
def readCredB (t : ByteArray) : Crd × Bool := if (varsB t 10 0 []).2.2 = true ∧ (varsB t 10 0 []).2.1 = (t.size : Int) ∧ okC (credOf (varsB t 10 0 []).1) = true then (credOf (varsB t 10 0 []).1, true) else (z0C, false)
def tupC (x : Crd × Bool) : Int × Int × Int × Int × Int × Int × Int × Int × Int × Int × Bool := (x.1.f0, x.1.f1.f0, x.1.f1.f1, x.1.f2, x.1.f3.f0, x.1.f3.f1, x.1.f4.f0, x.1.f4.f1, x.1.f5, x.1.f6, x.2)
theorem ten {l : List Int} (h : l.length = 10) : ∃ a b c d e f g i j k, l = [a, b, c, d, e, f, g, i, j, k] := by
 match l, h with
 | [a, b, c, d, e, f, g, i, j, k], _ => exact ⟨a, b, c, d, e, f, g, i, j, k, rfl⟩
theorem impl_RCred (t : ByteArray) (ht : t.size ≤ 1048576) : Ev (fun k => impl_ReadCred.f k t) (tupC (readCredB t)) := by
 unfold impl_ReadCred.f readCredB
 refine Ev.bind (impl_readVars t ht 10 (by omega) 0) ?_
 by_cases h1 : (varsB t 10 0 []).2.2 = true
 ·have hl := varsB_len t 10 0 [] h1
  simp only [List.length_nil, Nat.zero_add] at hl
  simp only [h1, ↓reduceIte, true_and]
  refine Ev.succ ?_
  by_cases h2 : (varsB t 10 0 []).2.1 = (t.size : Int)
  ·simp only [impl_ReadCred.j0, h2, bne_self_eq_false, Bool.false_eq_true, ↓reduceIte, hl, true_and, show (0 : Int) < ((10 : Nat) : Int) by omega, show (1 : Int) < ((10 : Nat) : Int) by omega, show (2 : Int) < ((10 : Nat) : Int) by omega, show (3 : Int) < ((10 : Nat) : Int) by omega, show (4 : Int) < ((10 : Nat) : Int) by omega, show (5 : Int) < ((10 : Nat) : Int) by omega, show (6 : Int) < ((10 : Nat) : Int) by omega, show (7 : Int) < ((10 : Nat) : Int) by omega, show (8 : Int) < ((10 : Nat) : Int) by omega, show (9 : Int) < ((10 : Nat) : Int) by omega]
   refine Ev.bind (impl_CredOk _ _ _ _ _ _ _ _ _ _) ?_
   by_cases h3 : okC (credOf (varsB t 10 0 []).1) = true
   ·rw [if_pos h3]
    unfold okC credOf at h3
    simp only at h3
    simp only [h3, ↓reduceIte]
    exact Ev.now _
   ·rw [if_neg h3]
    unfold okC credOf at h3
    simp only at h3
    simp only [h3, Bool.false_eq_true, ↓reduceIte]
    exact Ev.now _
  ·simp only [impl_ReadCred.j0, h2, ↓reduceIte, false_and, show ((varsB t 10 0 []).2.1 != (t.size : Int)) = true from bne_iff_ne.2 h2]
   exact Ev.now _
 ·simp only [h1, Bool.false_eq_true, ↓reduceIte, false_and]
  refine Ev.succ ?_
  simp only [impl_ReadCred.j0, ↓reduceIte]
  exact Ev.now _
theorem catNums_list : ∀ (l : List Int) (acc : ByteArray), L8 (catNums l acc) = L8 acc ++ l.flatMap (fun n => L8 (vtB n)) := by
 intro l
 induction l with
 | nil => intro acc; simp [catNums]
 | cons x xs ih =>
  intro acc
  show L8 (catNums xs (acc ++ vtB x)) = _
  rw [ih, L8_app, List.flatMap_cons, List.append_assoc]
theorem cred_vars {t : ByteArray} (h1 : (varsB t 10 0 []).2.2 = true) (h3 : okC (credOf (varsB t 10 0 []).1) = true) : (varsB t 10 0 []).2.1 ≤ (t.size : Int) ∧ 0 ≤ (varsB t 10 0 []).2.1 ∧ L8 (textC (credOf (varsB t 10 0 []).1)) = (L8 t).take (varsB t 10 0 []).2.1.toNat := by
 have hl := varsB_len t 10 0 [] h1
 simp only [List.length_nil, Nat.zero_add] at hl
 obtain ⟨new, a1, a2, a3, a4, a5⟩ := varsB_own t 10 0 [] _ _ (Int.le_refl _) (show varsB t 10 0 [] = ((varsB t 10 0 []).1, (varsB t 10 0 []).2.1, true) by rw [← h1])
 rw [List.nil_append] at a1
 refine ⟨by omega, a3, ?_⟩
 rw [a5, ← a1]
 obtain ⟨a, b, c, d, e, f, g, i, j, k, hk⟩ := ten hl
 rw [hk] at h3 ⊢
 have h4 : credOkB a b c d e f g i j k = true := h3
 show L8 (credTextB a b c d e f g i j k) = _
 unfold credTextB
 rw [if_pos h4, catNums_list]
 rfl
theorem spec_cred10 (t : ByteArray) (ht : t.size ≤ 1048576) : ∀ (d j : Nat) (s : List Int) (at_ : Int), 10 - j = d → j ≤ 10 → s.length = j → varsB t d at_ s = varsB t 10 0 [] →
  Ev (fun k => spec_ReadCred.l0 k t s at_ j) (tupC (readCredB t)) := by
 intro d
 induction d with
 | zero =>
  intro j s at_ hd hj hs hv
  obtain rfl : j = 10 := by omega
  have e1 : varsB t 10 0 [] = (s, at_, true) := by rw [← hv]; rfl
  have h1 : (varsB t 10 0 []).2.2 = true := by rw [e1]
  refine Ev.succ ?_
  simp only [spec_ReadCred.l0, show ¬ (((10 : Nat) : Int) < 10) by omega, ↓reduceIte, hs, show (0 : Int) < ((10 : Nat) : Int) by omega, show (1 : Int) < ((10 : Nat) : Int) by omega, show (2 : Int) < ((10 : Nat) : Int) by omega, show (3 : Int) < ((10 : Nat) : Int) by omega, show (4 : Int) < ((10 : Nat) : Int) by omega, show (5 : Int) < ((10 : Nat) : Int) by omega, show (6 : Int) < ((10 : Nat) : Int) by omega, show (7 : Int) < ((10 : Nat) : Int) by omega, show (8 : Int) < ((10 : Nat) : Int) by omega, show (9 : Int) < ((10 : Nat) : Int) by omega]
  refine Ev.bind (spec_CredOk _ _ _ _ _ _ _ _ _ _) ?_
  by_cases h3 : okC (credOf s) = true
  ·have hc := cred_vars h1 (by rw [e1]; exact h3)
   rw [e1] at hc
   simp only at hc
   have h3' := h3
   unfold okC credOf at h3'
   simp only at h3'
   simp only [h3', ↓reduceIte]
   refine Ev.bind (spec_CredText _ _ _ _ _ _ _ _ _ _) ?_
   have hiff : ((textC (credOf s)).toList = t.toList) ↔ at_ = (t.size : Int) := by
    rw [toList_eq, toList_eq]
    constructor
    ·intro h
     have h5 := hc.2.2
     have h6 : (L8 t).length = ((L8 t).take at_.toNat).length := by rw [← h5]; exact (congrArg List.length h).symm
     rw [List.length_take, L8_len] at h6
     omega
    ·intro h
     have h5 := hc.2.2
     rw [h, Int.toNat_natCast, ← L8_len, List.take_length] at h5
     exact h5
   unfold readCredB
   rw [e1]
   simp only [h3, true_and, and_true]
   by_cases h7 : at_ = (t.size : Int)
   ·rw [if_pos h7]
    have h8 := hiff.2 h7
    unfold textC credOf at h8
    simp only at h8
    simp only [h8, ↓reduceIte]
    exact Ev.now _
   ·rw [if_neg h7]
    have h8 := mt hiff.1 h7
    unfold textC credOf at h8
    simp only at h8
    simp only [h8, ↓reduceIte]
    exact Ev.now _
  ·have h3' := h3
   unfold okC credOf at h3'
   simp only at h3'
   simp only [h3', Bool.false_eq_true, ↓reduceIte]
   unfold readCredB
   rw [e1]
   simp only [h3, Bool.false_eq_true, and_false, ↓reduceIte]
   exact Ev.now _
 | succ d ih =>
  intro j s at_ hd hj hs hv
  refine Ev.succ ?_
  simp only [spec_ReadCred.l0, show ((j : Nat) : Int) < 10 by omega, ↓reduceIte]
  refine Ev.bind (spec_ReadVar t ht at_) ?_
  replace hv : (if (readVarB t at_).2.2 = true then varsB t d (readVarB t at_).2.1 (s ++ [(readVarB t at_).1]) else ([], 0, false)) = varsB t 10 0 [] := hv
  by_cases h1 : (readVarB t at_).2.2 = true
  ·rw [if_pos h1] at hv
   simp only [h1, ↓reduceIte, show s.length < 17592186044416 by omega, up_ (show j < 4611686018427387904 by omega)]
   exact ih (j + 1) _ _ (by omega) (by omega) (by simp [hs]) hv
  ·rw [if_neg h1] at hv
   simp only [h1, Bool.false_eq_true, ↓reduceIte]
   unfold readCredB
   rw [← hv]
   simp only [Bool.false_eq_true, false_and, ↓reduceIte]
   exact Ev.now _
theorem spec_RCred (t : ByteArray) (ht : t.size ≤ 1048576) : Ev (fun k => spec_ReadCred.f k t) (tupC (readCredB t)) := by
 unfold spec_ReadCred.f
 exact spec_cred10 t ht 10 0 [] 0 rfl (by omega) rfl rfl
theorem readCred_own {t : ByteArray} (h : (readCredB t).2 = true) : okC (readCredB t).1 = true ∧ L8 (textC (readCredB t).1) = L8 t := by
 unfold readCredB at h ⊢
 split at h
 ·rename_i hc
  rw [if_pos hc]
  obtain ⟨h1, h2, h3⟩ := hc
  refine ⟨h3, ?_⟩
  have := (cred_vars h1 h3).2.2
  rw [this, h2, Int.toNat_natCast, ← L8_len, List.take_length]
 ·exact absurd h (by simp)
end Q
end Go.Proofs.Yteppfdkfikeclaa
