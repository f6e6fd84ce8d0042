/-
Policies read out of a text: the reference holds the policy's own text against it, the program the place behind the last number; both are one plain function.
-/
import Derived.Test.YtppdmcimddhbaaaKFnPoliciesPEx0
import Derived.Test.YtppdmcimddhbaaaKFnPoliciesZOpen
import Derived.Test.YtppdmcimddhbaaaKFnPoliciesPEx10
import Derived.Test.YtppdmcimddhbaaaKFnPoliciesPEx9
import Derived.Test.YtppdmcimddhbaaaKFnPoliciesQ8
namespace Go.Proofs.Ytppdmcimddhbaaa
open Go.RowKit Go.Proofs.YtppdmcimddhbaaaW.PrintWords Go.Proofs.YtppdmcimddhbaaaW.PrintLast Go.Proofs.YtppdmcimddhbaaaW.PrintMore Go.Proofs.Ytppdmcimddhbaaa.PE
set_option linter.unusedVariables false
set_option linter.unusedSimpArgs false
namespace Q
/-- So many numbers, from a place on. -/
def varsB (t : ByteArray) : Nat → Int → List Int → List Int × Int × Bool
  | 0, at_, acc => (acc, at_, true)
  | m + 1, at_, acc => if (readVarB t at_).2.2 = true then varsB t m (readVarB t at_).2.1 (acc ++ [(readVarB t at_).1]) else ([], 0, false)
theorem varsB_len (t : ByteArray) : ∀ (m : Nat) (at_ : Int) (acc : List Int), (varsB t m at_ acc).2.2 = true → (varsB t m at_ acc).1.length = acc.length + m := by
  intro m
  induction m with
  | zero => intro at_ acc _; simp [varsB]
  | succ m ih =>
    intro at_ acc h
    unfold varsB at h ⊢
    by_cases h1 : (readVarB t at_).2.2 = true
    · rw [if_pos h1] at h ⊢
      rw [ih _ _ h]; simp; omega
    · rw [if_neg h1] at h; simp at h
theorem impl_readVars (t : ByteArray) (ht : t.size ≤ 1048576) (m : Nat) (hm : m ≤ 1000000) (at_ : Int) : Ev (fun k => impl_readVars.f k t at_ m) (varsB t m at_ []) := by
  unfold impl_readVars.f
  have key := Ev.up m (fun i (s : List Int × Int) k => impl_readVars.l0 k t s.2 s.1 m i) (fun i s => varsB t (m - i) s.2 s.1) (fun i s => s.1.length ≤ i) ?_ ?_ 0 ([], at_) (Nat.zero_le _) (by simp)
  · exact key
  · rintro i ⟨s, p⟩ hi hs ih
    refine Ev.succ ?_
    simp only [impl_readVars.l0, nat_lt, hi, ↓reduceIte, up_ (show i < 4611686018427387904 by omega)]
    refine Ev.bind (impl_ReadVar t ht p) ?_
    rw [show m - i = (m - (i + 1)) + 1 by omega]
    unfold varsB
    by_cases h1 : (readVarB t p).2.2 = true
    · have hs' : s.length ≤ i := hs
      simp only [h1, ↓reduceIte, show s.length < 17592186044416 by omega]
      exact ih (s ++ [(readVarB t p).1], (readVarB t p).2.1) (by simp; omega)
    · simp only [h1, Bool.false_eq_true, ↓reduceIte]
      exact Ev.now _
  · rintro ⟨s, p⟩ _
    refine Ev.succ ?_
    simp only [impl_readVars.l0, nat_lt, Nat.lt_irrefl, ↓reduceIte, Nat.sub_self, varsB]
    exact Ev.now _
def nodeOf (l : List Int) : Node := ⟨rd l 0, ⟨rd l 1, rd l 2⟩, rd l 3, rd l 4⟩
/-- So many nodes, from a place on. -/
def nodesR (t : ByteArray) : Nat → Int → List Node → Option (List Node × Int)
  | 0, at_, acc => some (acc, at_)
  | m + 1, at_, acc => if (varsB t 5 at_ []).2.2 = true then nodesR t m (varsB t 5 at_ []).2.1 (acc ++ [nodeOf (varsB t 5 at_ []).1]) else none
def doneI (t : ByteArray) : Option (List Node × Int) → List Node × Bool
  | none => ([], false)
  | some r => if r.2 = (t.size : Int) then (if policyOkB r.1 = true then (r.1, true) else ([], false)) else ([], false)
def readPolicyB (t : ByteArray) : List Node × Bool :=
  if (readVarB t 0).2.2 = true ∧ (readVarB t 0).1 ≤ 40 then doneI t (nodesR t (readVarB t 0).1.toNat (readVarB t 0).2.1 []) else ([], false)
theorem readVar_val {t : ByteArray} {at_ : Int} (h : (readVarB t at_).2.2 = true) : 0 ≤ at_ ∧ at_ < (readVarB t at_).2.1 ∧ (readVarB t at_).2.1 ≤ t.size ∧ 0 ≤ (readVarB t at_).1 ∧ (readVarB t at_).1 ≤ 1000000000 ∧
    t.data.toList.take (readVarB t at_).2.1.toNat = t.data.toList.take at_.toNat ++ (vtB (readVarB t at_).1).data.toList := by
  have hr : readVarB t at_ = ((readVarB t at_).1, (readVarB t at_).2.1, true) := by rw [← h]
  exact readVar_own hr
theorem nodesText_toList : ∀ (l : List Node) (acc : ByteArray), (nodesText l acc).data.toList = acc.data.toList ++ l.flatMap (fun n => (nodeText n).data.toList) := by
  intro l
  induction l with
  | nil => intro acc; simp [nodesText]
  | cons x xs ih =>
    intro acc
    show (nodesText xs (acc ++ nodeText x)).data.toList = _
    rw [ih, List.flatMap_cons, ByteArray.data_append, Array.toList_append, List.append_assoc]
theorem impl_nodes (t : ByteArray) (ht : t.size ≤ 1048576) (c : Nat) (hc : c ≤ 40) : ∀ (d i : Nat) (at_ : Int) (acc : List Node), c - i = d → i ≤ c → acc.length = i →
    Ev (fun k => impl_ReadPolicy.l0 k t at_ c i acc) (doneI t (nodesR t d at_ acc)) := by
  intro d
  induction d with
  | zero =>
    intro i at_ acc hd hi ha
    obtain rfl : i = c := by omega
    refine Ev.succ ?_
    simp only [impl_ReadPolicy.l0, Int.lt_irrefl, ↓reduceIte, nodesR, doneI]
    by_cases h1 : at_ = (t.size : Int)
    · simp only [h1, ↓reduceIte]
      refine Ev.bind (impl_PolicyOk acc (by omega)) ?_
      cases policyOkB acc
      · exact Ev.now _
      · exact Ev.now _
    · simp only [h1, ↓reduceIte]
      exact Ev.now _
  | succ d ih =>
    intro i at_ acc hd hi ha
    refine Ev.succ ?_
    simp only [impl_ReadPolicy.l0, show ((i : Nat) : Int) < (c : Int) by omega, ↓reduceIte]
    refine Ev.bind (impl_readVars t ht 5 (by omega) at_) ?_
    unfold nodesR
    by_cases h : (varsB t 5 at_ []).2.2 = true
    · have hl := varsB_len t 5 at_ [] h
      simp only [List.length_nil, Nat.zero_add] at hl
      simp only [h, ↓reduceIte, hl, show (0 : Int) < ((5 : Nat) : Int) by omega, show (1 : Int) < ((5 : Nat) : Int) by omega, show (2 : Int) < ((5 : Nat) : Int) by omega,
        show (3 : Int) < ((5 : Nat) : Int) by omega, show (4 : Int) < ((5 : Nat) : Int) by omega, show acc.length < 3518437208883 by omega, up_ (show i < 4611686018427387904 by omega)]
      exact ih (i + 1) _ _ (by omega) (by omega) (by simp [ha])
    · simp only [h, Bool.false_eq_true, ↓reduceIte]
      exact Ev.now _
theorem impl_ReadPolicy (t : ByteArray) (ht : t.size ≤ 1048576) : Ev (fun k => impl_ReadPolicy.f k t) (readPolicyB t) := by
  unfold impl_ReadPolicy.f readPolicyB
  refine Ev.bind (impl_ReadVar t ht 0) ?_
  by_cases h : (readVarB t 0).2.2 = true
  · obtain ⟨a1, a2, a3, a4, a5, a6⟩ := readVar_val h
    simp only [h, ↓reduceIte, true_and]
    refine Ev.succ ?_
    by_cases h1 : (readVarB t 0).1 ≤ 40
    · simp only [impl_ReadPolicy.j0, show ¬ ((readVarB t 0).1 > 40) by omega, decide_false, Bool.false_eq_true, ↓reduceIte, h1]
      have := impl_nodes t ht (readVarB t 0).1.toNat (by omega) (readVarB t 0).1.toNat 0 (readVarB t 0).2.1 [] (by omega) (by omega) rfl
      rw [Int.toNat_of_nonneg a4] at this
      exact this
    · simp only [impl_ReadPolicy.j0, show ((readVarB t 0).1 > 40) by omega, decide_true, ↓reduceIte, h1]
      exact Ev.now _
  · simp only [h, Bool.false_eq_true, ↓reduceIte, false_and]
    refine Ev.succ ?_
    simp only [impl_ReadPolicy.j0, ↓reduceIte]
    exact Ev.now _
end Q
end Go.Proofs.Ytppdmcimddhbaaa
