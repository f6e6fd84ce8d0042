/-
Plain facts that the pure proofs share: rounds, whole numbers, bytes, and the small functions (ranges, circles, words, numbers as bytes) of the reference and of the program.
-/
import Derived.Laws.BitsLemmas
import Derived.Test.YtcgnegnljffkmaaKFnExactRisingPEx0
import Derived.Test.YtcgnegnljffkmaaKFnExactRisingPExo
import Derived.Test.YtcgnegnljffkmaaKFnExactRisingPEx2
import Derived.Test.YtcgnegnljffkmaaKFnExactRisingPEx4
namespace Go.Proofs.Ytcgnegnljffkmaa
open Go.RowKit Go.Proofs.YtcgnegnljffkmaaW.PrintWords Go.Proofs.YtcgnegnljffkmaaW.PrintLast Go.Proofs.YtcgnegnljffkmaaW.PrintMore Go.Proofs.Ytcgnegnljffkmaa.PE
set_option linter.unusedVariables false
set_option linter.unusedSimpArgs false
namespace Q
theorem Ev.succ {α : Type} {g : Nat → Option α} {r : α} (h : Ev (fun k => g (k + 1)) r) : Ev g r := Ev.step (fun _ => rfl) h
theorem Ev.get {α : Type} {g : Nat → Option α} {r : α} (h : Ev g r) : ∃ k, g k = some r := h.rounds
theorem w64 {n : Int} (h0 : -9223372036854775808 ≤ n) (h1 : n ≤ 9223372036854775807) : wrap64 n = n := by unfold wrap64; omega
theorem Ev.up0 {ρ : Type} (n : Nat) (F : Nat → Nat → Option ρ) (R : Nat → ρ) (step : ∀ i, i < n → Ev (F (i + 1)) (R (i + 1)) → Ev (F i) (R i)) (fin : Ev (F n) (R n)) : ∀ i, i ≤ n → Ev (F i) (R i) := by
  have key : ∀ d i, n - i = d → i ≤ n → Ev (F i) (R i) := by
    intro d
    induction d with
    | zero =>
      intro i h1 h2
      obtain rfl : i = n := by omega
      exact fin
    | succ d ih => exact fun i h1 h2 => step i (by omega) (ih (i + 1) (by omega) (by omega))
  exact fun i h => key _ i rfl h
def allFrom (p : Nat → Bool) (n i : Nat) : Bool := if i < n then p i && allFrom p n (i + 1) else true
  termination_by n - i
theorem allFrom_lt {p : Nat → Bool} {n i : Nat} (h : i < n) : allFrom p n i = (p i && allFrom p n (i + 1)) := by rw [allFrom, if_pos h]
theorem allFrom_ge {p : Nat → Bool} {n i : Nat} (h : ¬ i < n) : allFrom p n i = true := by rw [allFrom, if_neg h]
theorem allFrom_iff {p : Nat → Bool} {n : Nat} : ∀ d i, n - i = d → (allFrom p n i = true ↔ ∀ j, i ≤ j → j < n → p j = true) := by
  intro d
  induction d with
  | zero =>
    intro i h
    rw [allFrom_ge (by omega)]
    simp
    omega
  | succ d ih =>
    intro i h
    rw [allFrom_lt (by omega), Bool.and_eq_true, ih (i + 1) (by omega)]
    constructor
    · rintro ⟨h1, h2⟩ j h3 h4
      rcases Nat.eq_or_lt_of_le h3 with rfl | h5
      · exact h1
      · exact h2 j h5 h4
    · exact fun h => ⟨h i (Nat.le_refl _) (by omega), fun j h1 h2 => h j (by omega) h2⟩
theorem nat_lt {a b : Nat} : ((a : Int) < (b : Int)) = (a < b) := by simp
theorem nat_0 (a : Nat) : ((0 : Int) ≤ (a : Int)) = True := by simp
theorem up_ {i : Nat} (h : i < 4611686018427387904) : wrap64 ((i : Int) + 1) = ((i + 1 : Nat) : Int) := by rw [w64 (by omega) (by omega)]; omega
theorem down_ {i : Nat} (h : i < 4611686018427387904) : wrap64 ((i : Int) - 1) = (i : Int) - 1 := w64 (by omega) (by omega)
theorem getD_ {α : Type} {l : List α} {i : Nat} (z : α) (h : i < l.length) : l.getD (i : Int).toNat z = l[i] := by simp [h]
theorem getDn_ {α : Type} {l : List α} {i : Nat} (z : α) (h : i < l.length) : l.getD i z = l[i] := by simp [h]
theorem beqI (a b : Int) : (a == b) = decide (a = b) := by by_cases h : a = b <;> simp [h]
theorem fill_ {α β : Type} (l : List α) (f : α → β) (z : β) (i : Nat) (h : i < l.length) :
    ((l.take i).map f ++ List.replicate (l.length - i) z).set i (f l[i]) = (l.take (i + 1)).map f ++ List.replicate (l.length - (i + 1)) z := by
  have e1 : ((l.take i).map f).length = i := by rw [List.length_map, List.length_take]; omega
  rw [List.set_append, if_neg (by omega), e1, Nat.sub_self, show l.length - i = (l.length - (i + 1)) + 1 by omega, List.replicate_succ, List.set_cons_zero,
    List.take_succ_eq_append_getElem h, List.map_append, List.append_assoc]
  rfl
theorem fill_len {α β : Type} (l : List α) (f : α → β) (z : β) (i : Nat) (h : i ≤ l.length) : ((l.take i).map f ++ List.replicate (l.length - i) z).length = l.length := by
  simp; omega
theorem fill_0 {α β : Type} (l : List α) (f : α → β) (z : β) : (l.take 0).map f ++ List.replicate (l.length - 0) z = List.replicate l.length z := by simp
theorem fill_n {α β : Type} (l : List α) (f : α → β) (z : β) : (l.take l.length).map f ++ List.replicate (l.length - l.length) z = l.map f := by simp
def inB (x lo hi : Int) : Bool := decide (lo ≤ x ∧ x ≤ hi)
theorem spec_in (a b c : Int) : spec_l01In.f a b c = some (inB a b c) := by
  unfold spec_l01In.f inB
  by_cases h : a ≥ b
  · rw [if_pos h]; congr 1; simp; omega
  · rw [if_neg h]; congr 1; simp; omega
theorem impl_in (a b c : Int) : impl_in.f a b c = some (inB a b c) := by
  unfold impl_in.f inB
  by_cases h : a ≥ b
  · rw [if_pos h]; congr 1; simp; omega
  · rw [if_neg h]; congr 1; simp; omega
def roleOkB (a b : Int) : Bool := inB a 0 5 && inB b 0 3
theorem spec_RoleOk (a b : Int) : spec_RoleOk.f a b = some (roleOkB a b) := by
  unfold spec_RoleOk.f roleOkB
  simp only [spec_in, Option.bind_some]
  cases inB a 0 5 <;> simp
theorem impl_RoleOk (a b : Int) : impl_RoleOk.f a b = some (roleOkB a b) := by
  unfold impl_RoleOk.f roleOkB
  simp only [impl_in, Option.bind_some]
  cases inB a 0 5 <;> simp
theorem inB_iff {x lo hi : Int} : inB x lo hi = true ↔ lo ≤ x ∧ x ≤ hi := by simp [inB]
end Q
end Go.Proofs.Ytcgnegnljffkmaa
