/-
Plain facts that the pure proofs share: rounds, whole numbers, bytes, and the small functions (ranges, circles, words, numbers as bytes) of the reference and of the program.
-/
import Derived.Test.YteofimccoadmeaaGreatKWPAxo
import Derived.Test.YteofimccoadmeaaGreatKWPAx16
namespace Go.Proofs.YteofimccoadmeaaGreat
open Go.RowKit Go.Proofs.YteofimccoadmeaaGreatW.PrintWords Go.Proofs.YteofimccoadmeaaGreatW.PrintLast Go.Proofs.YteofimccoadmeaaGreatW.PrintMore Go.Proofs.YteofimccoadmeaaGreat.PA
set_option linter.unusedVariables false
set_option linter.unusedSimpArgs false
namespace Q
theorem Ev.succ {α : Type} {g : Nat → Option α} {r : α} (h : Ev (fun k => g (k + 1)) r) : Ev g r := Ev.step (fun _ => rfl) h
theorem Ev.get {α : Type} {g : Nat → Option α} {r : α} (h : Ev g r) : ∃ k, g k = some r := h.rounds
theorem Ev.ite {α : Type} {c : Prop} [Decidable c] {g f : Nat → Option α} {r : α} (h1 : c → Ev g r) (h2 : ¬ c → Ev f r) : Ev (fun k => if c then g k else f k) r := by
 by_cases h : c
 ·simpa [h] using h1 h
 ·simpa [h] using h2 h
theorem w64 {n : Int} (h0 : -9223372036854775808 ≤ n) (h1 : n ≤ 9223372036854775807) : wrap64 n = n := by unfold wrap64; omega
theorem Ev.up0 {ρ : Type} (n : Nat) (F : Nat → Nat → Option ρ) (R : Nat → ρ) (step : ∀ i, i < n → Ev (F (i + 1)) (R (i + 1)) → Ev (F i) (R i)) (fin : Ev (F n) (R n)) : ∀ i, i ≤ n → Ev (F i) (R i) := by
 have key : ∀ d i, n - i = d → i ≤ n → Ev (F i) (R i) := by
  intro d
  induction d with
  | zero =>
   intro i h1 h2
   obtain rfl : i = n := by omega
   exact fin
  | succ d ih => exact fun i h1 h2 => step i (by omega) (ih (i + 1) (by omega) (by omega))
 exact fun i h => key _ i rfl h
theorem Ev.up {σ ρ : Type} (n : Nat) (F : Nat → σ → Nat → Option ρ) (R : Nat → σ → ρ) (Inv : Nat → σ → Prop)
  (step : ∀ i s, i < n → Inv i s → (∀ s', Inv (i + 1) s' → Ev (F (i + 1) s') (R (i + 1) s')) → Ev (F i s) (R i s))
  (fin : ∀ s, Inv n s → Ev (F n s) (R n s)) : ∀ i s, i ≤ n → Inv i s → Ev (F i s) (R i s) := by
 have key : ∀ d i s, n - i = d → i ≤ n → Inv i s → Ev (F i s) (R i s) := by
  intro d
  induction d with
  | zero =>
   intro i s h1 h2 h3
   obtain rfl : i = n := by omega
   exact fin s h3
  | succ d ih => exact fun i s h1 h2 h3 => step i s (by omega) h3 (fun s' h => ih (i + 1) s' (by omega) (by omega) h)
 exact fun i s h h2 => key _ i s rfl h h2
def allFrom (p : Nat → Bool) (n i : Nat) : Bool := if i < n then p i && allFrom p n (i + 1) else true
 termination_by n - i
theorem allFrom_lt {p : Nat → Bool} {n i : Nat} (h : i < n) : allFrom p n i = (p i && allFrom p n (i + 1)) := by rw [allFrom, if_pos h]
theorem allFrom_ge {p : Nat → Bool} {n i : Nat} (h : ¬ i < n) : allFrom p n i = true := by rw [allFrom, if_neg h]
theorem nat_lt {a b : Nat} : ((a : Int) < (b : Int)) = (a < b) := by simp
theorem nat_0 (a : Nat) : ((0 : Int) ≤ (a : Int)) = True := by simp
theorem up_ {i : Nat} (h : i < 4611686018427387904) : wrap64 ((i : Int) + 1) = ((i + 1 : Nat) : Int) := by rw [w64 (by omega) (by omega)]; omega
theorem down_ {i : Nat} (h : i < 4611686018427387904) : wrap64 ((i : Int) - 1) = (i : Int) - 1 := w64 (by omega) (by omega)
theorem getD_ {α : Type} {l : List α} {i : Nat} (z : α) (h : i < l.length) : l.getD (i : Int).toNat z = l[i] := by simp [h]
theorem getDn_ {α : Type} {l : List α} {i : Nat} (z : α) (h : i < l.length) : l.getD i z = l[i] := by simp [h]
theorem beqI (a b : Int) : (a == b) = decide (a = b) := by by_cases h : a = b <;> simp [h]
theorem fill_ {α β : Type} (l : List α) (f : α → β) (z : β) (i : Nat) (h : i < l.length) :
  ((l.take i).map f ++ List.replicate (l.length - i) z).set i (f l[i]) = (l.take (i + 1)).map f ++ List.replicate (l.length - (i + 1)) z := by
 have e1 : ((l.take i).map f).length = i := by rw [List.length_map, List.length_take]; omega
 rw [List.set_append, if_neg (by omega), e1, Nat.sub_self, show l.length - i = (l.length - (i + 1)) + 1 by omega, List.replicate_succ, List.set_cons_zero,
  List.take_succ_eq_append_getElem h, List.map_append, List.append_assoc]
 rfl
theorem fill_len {α β : Type} (l : List α) (f : α → β) (z : β) (i : Nat) (h : i ≤ l.length) : ((l.take i).map f ++ List.replicate (l.length - i) z).length = l.length := by
 simp; omega
theorem fill_0 {α β : Type} (l : List α) (f : α → β) (z : β) : (l.take 0).map f ++ List.replicate (l.length - 0) z = List.replicate l.length z := by simp
theorem fill_n {α β : Type} (l : List α) (f : α → β) (z : β) : (l.take l.length).map f ++ List.replicate (l.length - l.length) z = l.map f := by simp
def inB (x lo hi : Int) : Bool := decide (lo ≤ x ∧ x ≤ hi)
theorem spec_in (a b c : Int) : spec_l01In.f a b c = some (inB a b c) := by
 unfold spec_l01In.f inB
 by_cases h : a ≥ b
 ·rw [if_pos h]; congr 1; simp; omega
 ·rw [if_neg h]; congr 1; simp; omega
theorem impl_in (a b c : Int) : impl_in.f a b c = some (inB a b c) := by
 unfold impl_in.f inB
 by_cases h : a ≥ b
 ·rw [if_pos h]; congr 1; simp; omega
 ·rw [if_neg h]; congr 1; simp; omega
def roleOkB (a b : Int) : Bool := inB a 0 5 && inB b 0 3
theorem spec_RoleOk (a b : Int) : spec_RoleOk.f a b = some (roleOkB a b) := by
 unfold spec_RoleOk.f roleOkB
 simp only [spec_in, Option.bind_some]
 cases inB a 0 5 <;> simp
theorem impl_RoleOk (a b : Int) : impl_RoleOk.f a b = some (roleOkB a b) := by
 unfold impl_RoleOk.f roleOkB
 simp only [impl_in, Option.bind_some]
 cases inB a 0 5 <;> simp
theorem impl_isPerson (a : Int) : impl_isPerson.f a = some (inB a 0 5) := by
 unfold impl_isPerson.f
 simp only [impl_in, Option.bind_some]
def credOkB (k a b w c d e f u n : Int) : Bool :=
 roleOkB a b && inB u 1 9999 && inB n 0 99 &&
 (if k = 1 then inB w 0 5 && (c == 0 && d == 0) && (e == 0 && f == 0)
  else if k = 2 then w == 0 && roleOkB c d && (e == 0 && f == 0)
  else if k = 3 then w == 0 && roleOkB c d && roleOkB e f && e == 0
  else if k = 4 then w == 0 && roleOkB c d && roleOkB e f
  else false)
theorem spec_CredOk (k a b w c d e f u n : Int) : Ev (fun q => spec_CredOk.f q k a b w c d e f u n) (credOkB k a b w c d e f u n) := by
 have key : ∀ x : Bool, Ev (fun q => spec_CredOk.j0 q x k a b w c d e f u n) (!x &&
  (if k = 1 then inB w 0 5 && (c == 0 && d == 0) && (e == 0 && f == 0)
   else if k = 2 then w == 0 && roleOkB c d && (e == 0 && f == 0)
   else if k = 3 then w == 0 && roleOkB c d && roleOkB e f && e == 0
   else if k = 4 then w == 0 && roleOkB c d && roleOkB e f
   else false)) := by
  intro x
  refine Ev.succ ?_
  refine Ev.congr (f := fun _ => some _) (fun q => ?_) (Ev.now _)
  simp only [spec_CredOk.j0, spec_in, spec_RoleOk, Option.bind_some]
  cases x
  ·by_cases h1 : k = 1
   ·simp only [h1, if_true]; cases inB w 0 5 <;> cases (c == 0 && d == 0) <;> simp
   ·by_cases h2 : k = 2
    ·by_cases hw : w = 0 <;> simp [h2, hw] <;> cases roleOkB c d <;> simp
    ·by_cases h3 : k = 3
     ·by_cases hw : w = 0 <;> simp [h3, hw] <;> cases roleOkB c d <;> cases roleOkB e f <;> simp
     ·by_cases h4 : k = 4
      ·by_cases hw : w = 0 <;> simp [h4, hw] <;> cases roleOkB c d <;> cases roleOkB e f <;> simp
      ·simp [h1, h2, h3, h4]
  ·simp
 unfold spec_CredOk.f
 simp only [spec_in, spec_RoleOk, Option.bind_some]
 unfold credOkB
 cases h1 : roleOkB a b
 ·simpa using key true
 ·cases h2 : inB u 1 9999
  ·simpa using key true
  ·cases h3 : inB n 0 99
   ·simpa using key true
   ·simpa using key false
theorem impl_CredOk (k a b w c d e f u n : Int) : Ev (fun q => impl_CredOk.f q k a b w c d e f u n) (credOkB k a b w c d e f u n) := by
 have key : ∀ x : Bool, Ev (fun q => impl_CredOk.j0 q x k a b w c d e f u n) (!x &&
  (if k = 1 then inB w 0 5 && (c == 0 && d == 0) && (e == 0 && f == 0)
   else if k = 2 then w == 0 && roleOkB c d && (e == 0 && f == 0)
   else if k = 3 then w == 0 && roleOkB c d && roleOkB e f && e == 0
   else if k = 4 then w == 0 && roleOkB c d && roleOkB e f
   else false)) := by
  intro x
  refine Ev.succ ?_
  refine Ev.congr (f := fun _ => some _) (fun q => ?_) (Ev.now _)
  simp only [impl_CredOk.j0, impl_isPerson, impl_RoleOk, Option.bind_some]
  cases x
  ·by_cases h1 : k = 1
   ·simp only [h1, if_true]; cases inB w 0 5 <;> cases (c == 0 && d == 0) <;> simp
   ·by_cases h2 : k = 2
    ·by_cases hw : w = 0 <;> simp [h2, hw] <;> cases roleOkB c d <;> simp
    ·by_cases h3 : k = 3
     ·by_cases hw : w = 0 <;> simp [h3, hw] <;> cases roleOkB c d <;> cases roleOkB e f <;> simp
     ·by_cases h4 : k = 4
      ·by_cases hw : w = 0 <;> simp [h4, hw] <;> cases roleOkB c d <;> cases roleOkB e f <;> simp
      ·simp [h1, h2, h3, h4]
  ·simp
 unfold impl_CredOk.f
 simp only [impl_in, impl_RoleOk, Option.bind_some]
 unfold credOkB
 cases h1 : roleOkB a b
 ·simpa using key true
 ·cases h2 : inB u 1 9999
  ·simpa using key true
  ·cases h3 : inB n 0 99
   ·simpa using key true
   ·simpa using key false
theorem inB_iff {x lo hi : Int} : inB x lo hi = true ↔ lo ≤ x ∧ x ≤ hi := by simp [inB]
theorem credOk_bounds {k a b w c d e f u n : Int} (h : credOkB k a b w c d e f u n = true) :
  (1 ≤ k ∧ k ≤ 4) ∧ (0 ≤ a ∧ a ≤ 5) ∧ (0 ≤ b ∧ b ≤ 3) ∧ (0 ≤ w ∧ w ≤ 5) ∧ (0 ≤ c ∧ c ≤ 5) ∧ (0 ≤ d ∧ d ≤ 3) ∧ (0 ≤ e ∧ e ≤ 5) ∧ (0 ≤ f ∧ f ≤ 3) ∧ (1 ≤ u ∧ u ≤ 9999) ∧ (0 ≤ n ∧ n ≤ 99) := by
 unfold credOkB at h
 by_cases h1 : k = 1
 ·simp [h1, inB, roleOkB] at h; omega
 ·by_cases h2 : k = 2
  ·simp [h2, inB, roleOkB] at h; omega
  ·by_cases h3 : k = 3
   ·simp [h3, inB, roleOkB] at h; omega
   ·by_cases h4 : k = 4
    ·simp [h4, inB, roleOkB] at h; omega
    ·simp [h1, h2, h3, h4] at h
end Q
end Go.Proofs.YteofimccoadmeaaGreat
