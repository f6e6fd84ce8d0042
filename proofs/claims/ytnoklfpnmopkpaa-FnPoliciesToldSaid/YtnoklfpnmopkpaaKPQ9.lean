/-
Policies read out of a text: the reference holds the policy's own text against it, the program the place behind the last number; both are one plain function.
-/
import Derived.Test.YtnoklfpnmopkpaaKPQ8
namespace Go.Proofs.Ytnoklfpnmopkpaa
open Go.RowKit Go.Proofs.YtnoklfpnmopkpaaW.PrintWords Go.Proofs.YtnoklfpnmopkpaaW.PrintLast Go.Proofs.YtnoklfpnmopkpaaW.PrintMore Go.Proofs.Ytnoklfpnmopkpaa.PE
set_option linter.unusedVariables false
set_option linter.unusedSimpArgs false
namespace Q
def varsB (t : ByteArray) : Nat → Int → List Int → List Int × Int × Bool
 | 0, at_, acc => (acc, at_, true)
 | m + 1, at_, acc => if (readVarB t at_).2.2 = true then varsB t m (readVarB t at_).2.1 (acc ++ [(readVarB t at_).1]) else ([], 0, false)
theorem varsB_len (t : ByteArray) : ∀ (m : Nat) (at_ : Int) (acc : List Int), (varsB t m at_ acc).2.2 = true → (varsB t m at_ acc).1.length = acc.length + m := by
 intro m
 induction m with
 | zero => intro at_ acc _; simp [varsB]
 | succ m ih =>
  intro at_ acc h
  unfold varsB at h ⊢
  by_cases h1 : (readVarB t at_).2.2 = true
  ·rw [if_pos h1] at h ⊢
   rw [ih _ _ h]; simp; omega
  ·rw [if_neg h1] at h; simp at h
theorem impl_readVars (t : ByteArray) (ht : t.size ≤ 1048576) (m : Nat) (hm : m ≤ 1000000) (at_ : Int) : Ev (fun k => impl_readVars.f k t at_ m) (varsB t m at_ []) := by
 unfold impl_readVars.f
 have key := Ev.up m (fun i (s : List Int × Int) k => impl_readVars.l0 k t s.2 s.1 m i) (fun i s => varsB t (m - i) s.2 s.1) (fun i s => s.1.length ≤ i) ?_ ?_ 0 ([], at_) (Nat.zero_le _) (by simp)
 ·exact key
 ·rintro i ⟨s, p⟩ hi hs ih
  refine Ev.succ ?_
  simp only [impl_readVars.l0, nat_lt, hi, ↓reduceIte, up_ (show i < 4611686018427387904 by omega)]
  refine Ev.bind (impl_ReadVar t ht p) ?_
  rw [show m - i = (m - (i + 1)) + 1 by omega]
  unfold varsB
  by_cases h1 : (readVarB t p).2.2 = true
  ·have hs' : s.length ≤ i := hs
   simp only [h1, ↓reduceIte, show s.length < 17592186044416 by omega]
   exact ih (s ++ [(readVarB t p).1], (readVarB t p).2.1) (by simp; omega)
  ·simp only [h1, Bool.false_eq_true, ↓reduceIte]
   exact Ev.now _
 ·rintro ⟨s, p⟩ _
  refine Ev.succ ?_
  simp only [impl_readVars.l0, nat_lt, Nat.lt_irrefl, ↓reduceIte, Nat.sub_self, varsB]
  exact Ev.now _
theorem varsB_own (t : ByteArray) : ∀ (m : Nat) (at_ : Int) (acc l : List Int) (next : Int), 0 ≤ at_ → varsB t m at_ acc = (l, next, true) →
  ∃ new, l = acc ++ new ∧ new.length = m ∧ at_ ≤ next ∧ (m = 0 ∨ next ≤ t.size) ∧ t.data.toList.take next.toNat = t.data.toList.take at_.toNat ++ new.flatMap (fun n => (vtB n).data.toList) := by
 intro m
 induction m with
 | zero =>
  intro at_ acc l next h0 h
  simp only [varsB, Prod.mk.injEq, and_true] at h
  obtain ⟨rfl, rfl⟩ := h
  exact ⟨[], by simp, rfl, Int.le_refl _, .inl rfl, by simp⟩
 | succ m ih =>
  intro at_ acc l next h0 h
  unfold varsB at h
  by_cases h1 : (readVarB t at_).2.2 = true
  ·rw [if_pos h1] at h
   have hr : readVarB t at_ = ((readVarB t at_).1, (readVarB t at_).2.1, true) := by rw [← h1]
   obtain ⟨a1, a2, a3, a4, a5, a6⟩ := readVar_own hr
   obtain ⟨new, b1, b2, b3, b4, b5⟩ := ih _ _ _ _ (by omega) h
   refine ⟨(readVarB t at_).1 :: new, by rw [b1]; simp, by simp [b2], by omega, .inr ?_, ?_⟩
   ·rcases b4 with b4 | b4
    ·subst b4
     simp only [varsB, Prod.mk.injEq, and_true] at h
     omega
    ·exact b4
   ·rw [b5, a6, List.flatMap_cons, List.append_assoc]
  ·rw [if_neg h1] at h; simp at h
def nodeOf (l : List Int) : Node := ⟨rd l 0, ⟨rd l 1, rd l 2⟩, rd l 3, rd l 4⟩
def nodesR (t : ByteArray) : Nat → Int → List Node → Option (List Node × Int)
 | 0, at_, acc => some (acc, at_)
 | m + 1, at_, acc => if (varsB t 5 at_ []).2.2 = true then nodesR t m (varsB t 5 at_ []).2.1 (acc ++ [nodeOf (varsB t 5 at_ []).1]) else none
def doneI (t : ByteArray) : Option (List Node × Int) → List Node × Bool
 | none => ([], false)
 | some r => if r.2 = (t.size : Int) then (if policyOkB r.1 = true then (r.1, true) else ([], false)) else ([], false)
def doneS (t : ByteArray) : Option (List Node × Int) → List Node × Bool
 | none => ([], false)
 | some r => if (policyTextB r.1).toList = t.toList then (if t.toList = ([] : List UInt8) then ([], false) else (r.1, true)) else ([], false)
def readPolicyB (t : ByteArray) : List Node × Bool :=
 if (readVarB t 0).2.2 = true ∧ (readVarB t 0).1 ≤ 40 then doneI t (nodesR t (readVarB t 0).1.toNat (readVarB t 0).2.1 []) else ([], false)
theorem readVar_val {t : ByteArray} {at_ : Int} (h : (readVarB t at_).2.2 = true) : 0 ≤ at_ ∧ at_ < (readVarB t at_).2.1 ∧ (readVarB t at_).2.1 ≤ t.size ∧ 0 ≤ (readVarB t at_).1 ∧ (readVarB t at_).1 ≤ 1000000000 ∧
  t.data.toList.take (readVarB t at_).2.1.toNat = t.data.toList.take at_.toNat ++ (vtB (readVarB t at_).1).data.toList := by
 have hr : readVarB t at_ = ((readVarB t at_).1, (readVarB t at_).2.1, true) := by rw [← h]
 exact readVar_own hr
theorem five {l : List Int} (h : l.length = 5) : ∃ a b c d e, l = [a, b, c, d, e] := by
 match l, h with
 | [a, b, c, d, e], _ => exact ⟨a, b, c, d, e, rfl⟩
theorem nodesR_own (t : ByteArray) : ∀ (m : Nat) (at_ : Int) (acc l : List Node) (next : Int), 0 ≤ at_ → at_ ≤ t.size → nodesR t m at_ acc = some (l, next) →
  ∃ new, l = acc ++ new ∧ new.length = m ∧ at_ ≤ next ∧ next ≤ t.size ∧ t.data.toList.take next.toNat = t.data.toList.take at_.toNat ++ new.flatMap (fun n => (nodeText n).data.toList) := by
 intro m
 induction m with
 | zero =>
  intro at_ acc l next h0 h1 h
  simp only [nodesR, Option.some.injEq, Prod.mk.injEq] at h
  obtain ⟨rfl, rfl⟩ := h
  exact ⟨[], by simp, rfl, Int.le_refl _, h1, by simp⟩
 | succ m ih =>
  intro at_ acc l next h0 h1 h
  unfold nodesR at h
  by_cases h2 : (varsB t 5 at_ []).2.2 = true
  ·rw [if_pos h2] at h
   have hv : varsB t 5 at_ [] = ((varsB t 5 at_ []).1, (varsB t 5 at_ []).2.1, true) := by rw [← h2]
   obtain ⟨vs, a1, a2, a3, a4, a5⟩ := varsB_own t 5 at_ [] _ _ h0 hv
   rw [List.nil_append] at a1
   obtain ⟨a, b, c, d, e, rfl⟩ := five a2
   rw [a1] at h
   have a4' : (varsB t 5 at_ []).2.1 ≤ t.size := by
    rcases a4 with a4 | a4
    ·omega
    ·exact a4
   obtain ⟨new, b1, b2, b3, b4, b5⟩ := ih _ _ _ _ (by omega) a4' h
   refine ⟨nodeOf [a, b, c, d, e] :: new, by rw [b1]; simp, by simp [b2], by omega, b4, ?_⟩
   rw [b5, a5, List.flatMap_cons, List.append_assoc]
   congr 1
   congr 1
   simp [nodeOf, nodeText, rd, ByteArray.data_append, Array.toList_append]
  ·rw [if_neg h2] at h; simp at h
theorem nodesText_toList : ∀ (l : List Node) (acc : ByteArray), (nodesText l acc).data.toList = acc.data.toList ++ l.flatMap (fun n => (nodeText n).data.toList) := by
 intro l
 induction l with
 | nil => intro acc; simp [nodesText]
 | cons x xs ih =>
  intro acc
  show (nodesText xs (acc ++ nodeText x)).data.toList = _
  rw [ih, List.flatMap_cons, ByteArray.data_append, Array.toList_append, List.append_assoc]
theorem done_eq (t : ByteArray) (h : (readVarB t 0).2.2 = true) : doneS t (nodesR t (readVarB t 0).1.toNat (readVarB t 0).2.1 []) = doneI t (nodesR t (readVarB t 0).1.toNat (readVarB t 0).2.1 []) := by
 obtain ⟨a1, a2, a3, a4, a5, a6⟩ := readVar_val h
 cases hn : nodesR t (readVarB t 0).1.toNat (readVarB t 0).2.1 [] with
 | none => rfl
 | some r =>
  obtain ⟨l, at_⟩ := r
  obtain ⟨new, b1, b2, b3, b4, b5⟩ := nodesR_own t _ _ _ _ _ (by omega) (by omega) hn
  rw [List.nil_append] at b1
  subst b1
  have hsz : t.data.toList.length = t.size := by rw [Array.length_toList]; rfl
  have hne : t.toList ≠ [] := by
   rw [toList_eq]
   intro h2
   rw [h2] at hsz
   simp at hsz
   omega
  simp only [doneS, doneI, hne, ↓reduceIte]
  unfold policyTextB
  by_cases hp : policyOkB l = true
  ·simp only [hp, ↓reduceIte]
   have e : (nodesText l (vtB (l.length : Int))).toList = t.data.toList.take at_.toNat := by
    rw [toList_eq, nodesText_toList, b5, a6, b2, Int.toNat_of_nonneg a4]
    simp
   rw [e, toList_eq]
   by_cases h3 : at_ = (t.size : Int)
   ·have : t.data.toList.take at_.toNat = t.data.toList := List.take_of_length_le (by omega)
    simp only [h3, this, ↓reduceIte]
    rw [if_pos]
    rw [← h3]; exact this
   ·have : ¬ t.data.toList.take at_.toNat = t.data.toList := by
     intro h4
     have := congrArg List.length h4
     rw [List.length_take] at this
     omega
    simp only [h3, this, ↓reduceIte]
  ·simp only [hp, Bool.false_eq_true, ↓reduceIte]
   have : ¬ ((⟨#[]⟩ : ByteArray).toList = t.toList) := by
    intro h4
    rw [← h4, toList_eq] at hne
    exact hne rfl
   rw [if_neg this]
   split <;> rfl
theorem spec_vars5 (t : ByteArray) (ht : t.size ≤ 1048576) (c i : Int) (acc : List Node) (ha : acc.length ≤ 1000) (r : List Node × Bool) : ∀ (d j : Nat) (s : List Int) (at_ : Int), 5 - j = d → j ≤ 5 → s.length = j →
  ((varsB t d at_ s).2.2 = true → Ev (fun k => spec_ReadPolicy.l0 k t c (varsB t d at_ s).2.1 (wrap64 (i + 1)) (acc ++ [nodeOf (varsB t d at_ s).1])) r) → ((varsB t d at_ s).2.2 = false → r = ([], false)) →
  Ev (fun k => spec_ReadPolicy.l1 k t c at_ i s j acc) r := by
 intro d
 induction d with
 | zero =>
  intro j s at_ hd hj hs H _
  obtain rfl : j = 5 := by omega
  refine Ev.succ ?_
  simp only [spec_ReadPolicy.l1, show ¬ (((5 : Nat) : Int) < 5) by omega, ↓reduceIte, hs, show (0 : Int) < ((5 : Nat) : Int) by omega, show (1 : Int) < ((5 : Nat) : Int) by omega, show (2 : Int) < ((5 : Nat) : Int) by omega,
   show (3 : Int) < ((5 : Nat) : Int) by omega, show (4 : Int) < ((5 : Nat) : Int) by omega, show acc.length < 3518437208883 by omega]
  exact H rfl
 | succ d ih =>
  intro j s at_ hd hj hs H H0
  refine Ev.succ ?_
  simp only [spec_ReadPolicy.l1, show ((j : Nat) : Int) < 5 by omega, ↓reduceIte]
  refine Ev.bind (spec_ReadVar t ht at_) ?_
  unfold varsB at H H0
  by_cases h1 : (readVarB t at_).2.2 = true
  ·simp only [h1, ↓reduceIte, show s.length < 17592186044416 by omega, up_ (show j < 4611686018427387904 by omega)] at H H0 ⊢
   exact ih (j + 1) _ _ (by omega) (by omega) (by simp [hs]) H H0
  ·simp only [h1, Bool.false_eq_true, ↓reduceIte] at H H0 ⊢
   rw [H0 trivial]
   exact Ev.now _
theorem spec_nodes (t : ByteArray) (ht : t.size ≤ 1048576) (c : Nat) (hc : c ≤ 40) : ∀ (d i : Nat) (at_ : Int) (acc : List Node), c - i = d → i ≤ c → acc.length = i →
  Ev (fun k => spec_ReadPolicy.l0 k t c at_ i acc) (doneS t (nodesR t d at_ acc)) := by
 intro d
 induction d with
 | zero =>
  intro i at_ acc hd hi ha
  obtain rfl : i = c := by omega
  refine Ev.succ ?_
  simp only [spec_ReadPolicy.l0, Int.lt_irrefl, ↓reduceIte]
  refine Ev.bind (spec_PolicyText acc (by omega)) ?_
  simp only [nodesR, doneS]
  split
  ·split
   ·exact Ev.now _
   ·exact Ev.now _
  ·exact Ev.now _
 | succ d ih =>
  intro i at_ acc hd hi ha
  refine Ev.succ ?_
  simp only [spec_ReadPolicy.l0, show ((i : Nat) : Int) < (c : Int) by omega, ↓reduceIte]
  refine spec_vars5 t ht c i acc (by omega) _ 5 0 [] at_ rfl (by omega) rfl ?_ ?_
  ·intro h
   rw [up_ (show i < 4611686018427387904 by omega)]
   unfold nodesR
   rw [if_pos h]
   exact ih (i + 1) _ _ (by omega) (by omega) (by simp [ha])
  ·intro h
   unfold nodesR
   rw [if_neg (by simp [h])]
   rfl
theorem impl_nodes (t : ByteArray) (ht : t.size ≤ 1048576) (c : Nat) (hc : c ≤ 40) : ∀ (d i : Nat) (at_ : Int) (acc : List Node), c - i = d → i ≤ c → acc.length = i →
  Ev (fun k => impl_ReadPolicy.l0 k t at_ c i acc) (doneI t (nodesR t d at_ acc)) := by
 intro d
 induction d with
 | zero =>
  intro i at_ acc hd hi ha
  obtain rfl : i = c := by omega
  refine Ev.succ ?_
  simp only [impl_ReadPolicy.l0, Int.lt_irrefl, ↓reduceIte, nodesR, doneI]
  by_cases h1 : at_ = (t.size : Int)
  ·simp only [h1, ↓reduceIte]
   refine Ev.bind (impl_PolicyOk acc (by omega)) ?_
   cases policyOkB acc
   ·exact Ev.now _
   ·exact Ev.now _
  ·simp only [h1, ↓reduceIte]
   exact Ev.now _
 | succ d ih =>
  intro i at_ acc hd hi ha
  refine Ev.succ ?_
  simp only [impl_ReadPolicy.l0, show ((i : Nat) : Int) < (c : Int) by omega, ↓reduceIte]
  refine Ev.bind (impl_readVars t ht 5 (by omega) at_) ?_
  unfold nodesR
  by_cases h : (varsB t 5 at_ []).2.2 = true
  ·have hl := varsB_len t 5 at_ [] h
   simp only [List.length_nil, Nat.zero_add] at hl
   simp only [h, ↓reduceIte, hl, show (0 : Int) < ((5 : Nat) : Int) by omega, show (1 : Int) < ((5 : Nat) : Int) by omega, show (2 : Int) < ((5 : Nat) : Int) by omega,
    show (3 : Int) < ((5 : Nat) : Int) by omega, show (4 : Int) < ((5 : Nat) : Int) by omega, show acc.length < 3518437208883 by omega, up_ (show i < 4611686018427387904 by omega)]
   exact ih (i + 1) _ _ (by omega) (by omega) (by simp [ha])
  ·simp only [h, Bool.false_eq_true, ↓reduceIte]
   exact Ev.now _
theorem spec_ReadPolicy (t : ByteArray) (ht : t.size ≤ 1048576) : Ev (fun k => spec_ReadPolicy.f k t) (readPolicyB t) := by
 unfold spec_ReadPolicy.f readPolicyB
 refine Ev.bind (spec_ReadVar t ht 0) ?_
 by_cases h : (readVarB t 0).2.2 = true
 ·obtain ⟨a1, a2, a3, a4, a5, a6⟩ := readVar_val h
  simp only [h, ↓reduceIte, true_and]
  refine Ev.succ ?_
  by_cases h1 : (readVarB t 0).1 ≤ 40
  ·simp only [spec_ReadPolicy.j0, show ¬ ((readVarB t 0).1 > 40) by omega, decide_false, Bool.false_eq_true, ↓reduceIte, h1]
   rw [← done_eq t h]
   have := spec_nodes t ht (readVarB t 0).1.toNat (by omega) (readVarB t 0).1.toNat 0 (readVarB t 0).2.1 [] (by omega) (by omega) rfl
   rw [Int.toNat_of_nonneg a4] at this
   exact this
  ·simp only [spec_ReadPolicy.j0, show ((readVarB t 0).1 > 40) by omega, decide_true, ↓reduceIte, h1]
   exact Ev.now _
 ·simp only [h, Bool.false_eq_true, ↓reduceIte, false_and]
  refine Ev.succ ?_
  simp only [spec_ReadPolicy.j0, ↓reduceIte]
  exact Ev.now _
theorem impl_ReadPolicy (t : ByteArray) (ht : t.size ≤ 1048576) : Ev (fun k => impl_ReadPolicy.f k t) (readPolicyB t) := by
 unfold impl_ReadPolicy.f readPolicyB
 refine Ev.bind (impl_ReadVar t ht 0) ?_
 by_cases h : (readVarB t 0).2.2 = true
 ·obtain ⟨a1, a2, a3, a4, a5, a6⟩ := readVar_val h
  simp only [h, ↓reduceIte, true_and]
  refine Ev.succ ?_
  by_cases h1 : (readVarB t 0).1 ≤ 40
  ·simp only [impl_ReadPolicy.j0, show ¬ ((readVarB t 0).1 > 40) by omega, decide_false, Bool.false_eq_true, ↓reduceIte, h1]
   have := impl_nodes t ht (readVarB t 0).1.toNat (by omega) (readVarB t 0).1.toNat 0 (readVarB t 0).2.1 [] (by omega) (by omega) rfl
   rw [Int.toNat_of_nonneg a4] at this
   exact this
  ·simp only [impl_ReadPolicy.j0, show ((readVarB t 0).1 > 40) by omega, decide_true, ↓reduceIte, h1]
   exact Ev.now _
 ·simp only [h, Bool.false_eq_true, ↓reduceIte, false_and]
  refine Ev.succ ?_
  simp only [impl_ReadPolicy.j0, ↓reduceIte]
  exact Ev.now _
theorem nodesR_len (t : ByteArray) : ∀ (m : Nat) (at_ : Int) (acc : List Node) (r : List Node × Int), nodesR t m at_ acc = some r → r.1.length = acc.length + m := by
 intro m
 induction m with
 | zero => intro at_ acc r h; simp only [nodesR, Option.some.injEq] at h; subst h; rfl
 | succ m ih =>
  intro at_ acc r h
  unfold nodesR at h
  split at h
  ·rw [ih _ _ _ h]; simp; omega
  ·cases h
theorem readPolicyB_len (t : ByteArray) : (readPolicyB t).1.length ≤ 40 := by
 unfold readPolicyB
 split
 ·rename_i h
  obtain ⟨a1, a2, a3, a4, a5, a6⟩ := readVar_val h.1
  cases hn : nodesR t (readVarB t 0).1.toNat (readVarB t 0).2.1 [] with
  | none => simp [doneI]
  | some r =>
   have := nodesR_len t _ _ _ _ hn
   simp only [doneI]
   split
   ·split
    ·simp only [this, List.length_nil]; omega
    ·simp
   ·simp
 ·simp
end Q
end Go.Proofs.Ytnoklfpnmopkpaa
