/-
Plain facts that the pure proofs share: rounds, whole numbers, bytes, and the small functions (ranges, circles, words, numbers as bytes) of the reference and of the program.
-/
import Derived.Test.YteppfdkfikeclaaKRZOpen
import Derived.Test.YteppfdkfikeclaaKRPLx9
namespace Go.Proofs.Yteppfdkfikeclaa
open Go.RowKit Go.Proofs.YteppfdkfikeclaaW.PrintWords Go.Proofs.YteppfdkfikeclaaW.PrintLast Go.Proofs.YteppfdkfikeclaaW.PrintMore Go.Proofs.Yteppfdkfikeclaa.PL
set_option linter.unusedVariables false
set_option linter.unusedSimpArgs false
namespace Q
theorem Ev.succ {α : Type} {g : Nat → Option α} {r : α} (h : Ev (fun k => g (k + 1)) r) : Ev g r := Ev.step (fun _ => rfl) h
theorem Ev.get {α : Type} {g : Nat → Option α} {r : α} (h : Ev g r) : ∃ k, g k = some r := h.rounds
theorem Ev.ite {α : Type} {c : Prop} [Decidable c] {g f : Nat → Option α} {r : α} (h1 : c → Ev g r) (h2 : ¬ c → Ev f r) : Ev (fun k => if c then g k else f k) r := by
 by_cases h : c
 ·simpa [h] using h1 h
 ·simpa [h] using h2 h
theorem w64 {n : Int} (h0 : -9223372036854775808 ≤ n) (h1 : n ≤ 9223372036854775807) : wrap64 n = n := by unfold wrap64; omega
theorem wraps_i64 (n : Int) (h₀ : 0 ≤ n) (h₁ : n < 2 ^ 63) : IntKind.i64.wrap n = n := by rw [IntKind.wrap_i64]; omega
theorem and127 {x : Int} (h0 : 0 ≤ x) (h1 : x ≤ 9223372036854775807) : Go.bits .and .i64 x 127 = x % 128 := bits_mask .i64 63 (by decide) wraps_i64 7 (by decide) x h0 (by omega)
theorem or128 {y : Int} (h0 : 0 ≤ y) (h1 : y < 128) : Go.bits .or .i64 y 128 = y + 128 := by
 obtain ⟨b, rfl⟩ := Int.eq_ofNat_of_zero_le h0
 have hb : b < 128 := by omega
 have h2 := (bits_nat .i64 63 (by decide) wraps_i64 b 128 (by omega) (by decide)).2
 have h3 : 128 + b = 128 ||| b := Nat.two_pow_add_eq_or_of_lt (i := 7) hb 1
 rw [Nat.or_comm] at h3
 rw [show ((128 : Int)) = ((128 : Nat) : Int) from rfl, h2]
 omega
theorem toList_mk (l : List UInt8) : (⟨l.toArray⟩ : ByteArray).toList = l := by
 have key : ∀ (n i : Nat) (r : List UInt8), l.length - i = n → ByteArray.toList.loop ⟨l.toArray⟩ i r = r.reverse ++ l.drop i := by
  intro n
  induction n with
  | zero =>
   intro i r h
   unfold ByteArray.toList.loop
   have : ¬ i < (⟨l.toArray⟩ : ByteArray).size := by show ¬ i < l.toArray.size; simp; omega
   rw [if_neg this, List.drop_of_length_le (by omega), List.append_nil]
  | succ n ih =>
   intro i r h
   unfold ByteArray.toList.loop
   have hlt : i < l.length := by omega
   have : i < (⟨l.toArray⟩ : ByteArray).size := by show i < l.toArray.size; simpa using hlt
   rw [if_pos this, ih (i + 1) _ (by omega), List.drop_eq_getElem_cons hlt]
   have : (⟨l.toArray⟩ : ByteArray).get! i = l[i] := by
    show l.toArray[i]! = l[i]
    simp [hlt]
   rw [this]
   simp
 have := key l.length 0 [] (by omega)
 simpa [ByteArray.toList] using this
theorem toList_eq (b : ByteArray) : b.toList = b.data.toList := by
 obtain ⟨⟨l⟩⟩ := b
 exact toList_mk l
theorem Ev.up0 {ρ : Type} (n : Nat) (F : Nat → Nat → Option ρ) (R : Nat → ρ) (step : ∀ i, i < n → Ev (F (i + 1)) (R (i + 1)) → Ev (F i) (R i)) (fin : Ev (F n) (R n)) : ∀ i, i ≤ n → Ev (F i) (R i) := by
 have key : ∀ d i, n - i = d → i ≤ n → Ev (F i) (R i) := by
  intro d
  induction d with
  | zero =>
   intro i h1 h2
   obtain rfl : i = n := by omega
   exact fin
  | succ d ih => exact fun i h1 h2 => step i (by omega) (ih (i + 1) (by omega) (by omega))
 exact fun i h => key _ i rfl h
theorem Ev.up {σ ρ : Type} (n : Nat) (F : Nat → σ → Nat → Option ρ) (R : Nat → σ → ρ) (Inv : Nat → σ → Prop)
  (step : ∀ i s, i < n → Inv i s → (∀ s', Inv (i + 1) s' → Ev (F (i + 1) s') (R (i + 1) s')) → Ev (F i s) (R i s))
  (fin : ∀ s, Inv n s → Ev (F n s) (R n s)) : ∀ i s, i ≤ n → Inv i s → Ev (F i s) (R i s) := by
 have key : ∀ d i s, n - i = d → i ≤ n → Inv i s → Ev (F i s) (R i s) := by
  intro d
  induction d with
  | zero =>
   intro i s h1 h2 h3
   obtain rfl : i = n := by omega
   exact fin s h3
  | succ d ih => exact fun i s h1 h2 h3 => step i s (by omega) h3 (fun s' h => ih (i + 1) s' (by omega) (by omega) h)
 exact fun i s h h2 => key _ i s rfl h h2
theorem nat_lt {a b : Nat} : ((a : Int) < (b : Int)) = (a < b) := by simp
theorem nat_0 (a : Nat) : ((0 : Int) ≤ (a : Int)) = True := by simp
theorem up_ {i : Nat} (h : i < 4611686018427387904) : wrap64 ((i : Int) + 1) = ((i + 1 : Nat) : Int) := by rw [w64 (by omega) (by omega)]; omega
theorem getD_ {α : Type} {l : List α} {i : Nat} (z : α) (h : i < l.length) : l.getD (i : Int).toNat z = l[i] := by simp [h]
theorem getDn_ {α : Type} {l : List α} {i : Nat} (z : α) (h : i < l.length) : l.getD i z = l[i] := by simp [h]
def inB (x lo hi : Int) : Bool := decide (lo ≤ x ∧ x ≤ hi)
theorem spec_in (a b c : Int) : spec_l01In.f a b c = some (inB a b c) := by
 unfold spec_l01In.f inB
 by_cases h : a ≥ b
 ·rw [if_pos h]; congr 1; simp; omega
 ·rw [if_neg h]; congr 1; simp; omega
theorem impl_in (a b c : Int) : impl_in.f a b c = some (inB a b c) := by
 unfold impl_in.f inB
 by_cases h : a ≥ b
 ·rw [if_pos h]; congr 1; simp; omega
 ·rw [if_neg h]; congr 1; simp; omega
def roleOkB (a b : Int) : Bool := inB a 0 5 && inB b 0 3
theorem spec_RoleOk (a b : Int) : spec_RoleOk.f a b = some (roleOkB a b) := by
 unfold spec_RoleOk.f roleOkB
 simp only [spec_in, Option.bind_some]
 cases inB a 0 5 <;> simp
theorem impl_RoleOk (a b : Int) : impl_RoleOk.f a b = some (roleOkB a b) := by
 unfold impl_RoleOk.f roleOkB
 simp only [impl_in, Option.bind_some]
 cases inB a 0 5 <;> simp
theorem impl_isPerson (a : Int) : impl_isPerson.f a = some (inB a 0 5) := by
 unfold impl_isPerson.f
 simp only [impl_in, Option.bind_some]
def credOkB (k a b w c d e f u n : Int) : Bool :=
 roleOkB a b && inB u 1 9999 && inB n 0 99 &&
 (if k = 1 then inB w 0 5 && (c == 0 && d == 0) && (e == 0 && f == 0)
  else if k = 2 then w == 0 && roleOkB c d && (e == 0 && f == 0)
  else if k = 3 then w == 0 && roleOkB c d && roleOkB e f && e == 0
  else if k = 4 then w == 0 && roleOkB c d && roleOkB e f
  else false)
theorem spec_CredOk (k a b w c d e f u n : Int) : Ev (fun q => spec_CredOk.f q k a b w c d e f u n) (credOkB k a b w c d e f u n) := by
 have key : ∀ x : Bool, Ev (fun q => spec_CredOk.j0 q x k a b w c d e f u n) (!x &&
  (if k = 1 then inB w 0 5 && (c == 0 && d == 0) && (e == 0 && f == 0)
   else if k = 2 then w == 0 && roleOkB c d && (e == 0 && f == 0)
   else if k = 3 then w == 0 && roleOkB c d && roleOkB e f && e == 0
   else if k = 4 then w == 0 && roleOkB c d && roleOkB e f
   else false)) := by
  intro x
  refine Ev.succ ?_
  refine Ev.congr (f := fun _ => some _) (fun q => ?_) (Ev.now _)
  simp only [spec_CredOk.j0, spec_in, spec_RoleOk, Option.bind_some]
  cases x
  ·by_cases h1 : k = 1
   ·simp only [h1, if_true]; cases inB w 0 5 <;> cases (c == 0 && d == 0) <;> simp
   ·by_cases h2 : k = 2
    ·by_cases hw : w = 0 <;> simp [h2, hw] <;> cases roleOkB c d <;> simp
    ·by_cases h3 : k = 3
     ·by_cases hw : w = 0 <;> simp [h3, hw] <;> cases roleOkB c d <;> cases roleOkB e f <;> simp
     ·by_cases h4 : k = 4
      ·by_cases hw : w = 0 <;> simp [h4, hw] <;> cases roleOkB c d <;> cases roleOkB e f <;> simp
      ·simp [h1, h2, h3, h4]
  ·simp
 unfold spec_CredOk.f
 simp only [spec_in, spec_RoleOk, Option.bind_some]
 unfold credOkB
 cases h1 : roleOkB a b
 ·simpa using key true
 ·cases h2 : inB u 1 9999
  ·simpa using key true
  ·cases h3 : inB n 0 99
   ·simpa using key true
   ·simpa using key false
theorem impl_CredOk (k a b w c d e f u n : Int) : Ev (fun q => impl_CredOk.f q k a b w c d e f u n) (credOkB k a b w c d e f u n) := by
 have key : ∀ x : Bool, Ev (fun q => impl_CredOk.j0 q x k a b w c d e f u n) (!x &&
  (if k = 1 then inB w 0 5 && (c == 0 && d == 0) && (e == 0 && f == 0)
   else if k = 2 then w == 0 && roleOkB c d && (e == 0 && f == 0)
   else if k = 3 then w == 0 && roleOkB c d && roleOkB e f && e == 0
   else if k = 4 then w == 0 && roleOkB c d && roleOkB e f
   else false)) := by
  intro x
  refine Ev.succ ?_
  refine Ev.congr (f := fun _ => some _) (fun q => ?_) (Ev.now _)
  simp only [impl_CredOk.j0, impl_isPerson, impl_RoleOk, Option.bind_some]
  cases x
  ·by_cases h1 : k = 1
   ·simp only [h1, if_true]; cases inB w 0 5 <;> cases (c == 0 && d == 0) <;> simp
   ·by_cases h2 : k = 2
    ·by_cases hw : w = 0 <;> simp [h2, hw] <;> cases roleOkB c d <;> simp
    ·by_cases h3 : k = 3
     ·by_cases hw : w = 0 <;> simp [h3, hw] <;> cases roleOkB c d <;> cases roleOkB e f <;> simp
     ·by_cases h4 : k = 4
      ·by_cases hw : w = 0 <;> simp [h4, hw] <;> cases roleOkB c d <;> cases roleOkB e f <;> simp
      ·simp [h1, h2, h3, h4]
  ·simp
 unfold impl_CredOk.f
 simp only [impl_in, impl_RoleOk, Option.bind_some]
 unfold credOkB
 cases h1 : roleOkB a b
 ·simpa using key true
 ·cases h2 : inB u 1 9999
  ·simpa using key true
  ·cases h3 : inB n 0 99
   ·simpa using key true
   ·simpa using key false
def vt (n : Nat) : List Int := if h : n > 127 then ((n : Int) % 128 + 128) :: vt (n / 128) else [(n : Int)]
 termination_by n
 decreasing_by omega
theorem vt_big {n : Nat} (h : n > 127) : vt n = ((n : Int) % 128 + 128) :: vt (n / 128) := by rw [vt, dif_pos h]
theorem vt_small {n : Nat} (h : ¬ n > 127) : vt n = [(n : Int)] := by rw [vt, dif_neg h]
theorem snoc_ {α : Type} (acc : List α) (x : α) (l : List α) : acc ++ x :: l = (acc ++ [x]) ++ l := by simp
def vtB (n : Int) : ByteArray := strOfNums (vt n.toNat)
theorem spec_vt : ∀ (m n : Nat) (acc : List Int), n ≤ m → acc.length + n < 140737488355328 → Ev (fun k => spec_l01Var.l0 k n acc) (strOfNums (acc ++ vt n)) := by
 intro m
 induction m with
 | zero =>
  intro n acc h1 h2
  refine Ev.succ ?_
  have h : ¬ ((n : Int) > 127) := by omega
  have h3 : acc.length < 140737488355328 := by omega
  simp only [spec_l01Var.l0, h, h3, ↓reduceIte]
  rw [vt_small (by omega), Int.emod_eq_of_lt (by omega) (by omega)]
  exact Ev.now _
 | succ m ih =>
  intro n acc h1 h2
  refine Ev.succ ?_
  have h3 : acc.length < 140737488355328 := by omega
  by_cases h : n > 127
  ·have h' : ((n : Int) > 127) := by omega
   simp only [spec_l01Var.l0, h', h3, ↓reduceIte]
   have e1 : wrap64 (Int.tdiv n 128) = ((n / 128 : Nat) : Int) := by
    rw [Int.tdiv_eq_ediv_of_nonneg (by omega)]
    exact w64 (by omega) (by omega)
   have e2 : (wrap64 (Int.tmod n 128 + 128)) % 256 = (n : Int) % 128 + 128 := by
    rw [Int.tmod_eq_emod_of_nonneg (by omega), w64 (by omega) (by omega)]
    omega
   rw [e1, e2, vt_big h, snoc_ acc _ (vt (n / 128))]
   exact ih (n / 128) _ (by omega) (by rw [List.length_append, List.length_singleton]; omega)
  ·have h' : ¬ ((n : Int) > 127) := by omega
   simp only [spec_l01Var.l0, h', h3, ↓reduceIte]
   rw [vt_small h, Int.emod_eq_of_lt (by omega) (by omega)]
   exact Ev.now _
theorem spec_l01Var (n : Int) (h0 : 0 ≤ n) (h1 : n ≤ 1000000000000) : Ev (fun k => spec_l01Var.f k n) (vtB n) := by
 obtain ⟨m, rfl⟩ := Int.eq_ofNat_of_zero_le h0
 have := spec_vt m m [] (Nat.le_refl _) (by simp; omega)
 simpa [spec_l01Var.f, vtB] using this
theorem impl_vt : ∀ (m n : Nat) (acc : List Int), n ≤ m → acc.length + n < 140737488355328 → Ev (fun k => impl_varText.l0 k n acc) (strOfNums (acc ++ vt n)) := by
 intro m
 induction m with
 | zero =>
  intro n acc h1 h2
  refine Ev.succ ?_
  have h : ¬ ((n : Int) > 127) := by omega
  have h3 : acc.length < 140737488355328 := by omega
  simp only [impl_varText.l0, h, h3, ↓reduceIte]
  rw [vt_small (by omega), Int.emod_eq_of_lt (by omega) (by omega)]
  exact Ev.now _
 | succ m ih =>
  intro n acc h1 h2
  refine Ev.succ ?_
  have h3 : acc.length < 140737488355328 := by omega
  by_cases h : n > 127
  ·have h' : ((n : Int) > 127) := by omega
   simp only [impl_varText.l0, h', h3, ↓reduceIte]
   have e2 : (Go.bits .or .i64 (Go.bits .and .i64 n 127) 128) % 256 = (n : Int) % 128 + 128 := by
    rw [and127 (by omega) (by omega), or128 (by omega) (by omega)]
    omega
   rw [e2, vt_big h, snoc_ acc _ (vt (n / 128))]
   exact ih (n / 128) _ (by omega) (by rw [List.length_append, List.length_singleton]; omega)
  ·have h' : ¬ ((n : Int) > 127) := by omega
   simp only [impl_varText.l0, h', h3, ↓reduceIte]
   rw [vt_small h, Int.emod_eq_of_lt (by omega) (by omega)]
   exact Ev.now _
theorem impl_varText (n : Int) (h0 : 0 ≤ n) (h1 : n ≤ 1000000000000) : Ev (fun k => impl_varText.f k n) (vtB n) := by
 obtain ⟨m, rfl⟩ := Int.eq_ofNat_of_zero_le h0
 have := impl_vt m m [] (Nat.le_refl _) (by simp; omega)
 simpa [impl_varText.f, vtB] using this
theorem vt_len : ∀ (m n : Nat), n ≤ m → (vt n).length ≤ n + 1 := by
 intro m
 induction m with
 | zero => intro n h; rw [vt_small (by omega)]; simp
 | succ m ih =>
  intro n h
  by_cases h1 : n > 127
  ·rw [vt_big h1, List.length_cons]; have := ih (n / 128) (by omega); omega
  ·rw [vt_small h1]; simp
theorem strOfNums_size (l : List Int) : (strOfNums l).size = l.length := by
 show ((l.map fun n => UInt8.ofNat n.toNat).toArray).size = l.length
 simp
theorem vtB_size (n : Int) (h0 : 0 ≤ n) : (vtB n).size ≤ n.toNat + 1 := by
 unfold vtB
 rw [strOfNums_size]
 exact vt_len _ _ (Nat.le_refl _)
theorem inB_iff {x lo hi : Int} : inB x lo hi = true ↔ lo ≤ x ∧ x ≤ hi := by simp [inB]
theorem credOk_bounds {k a b w c d e f u n : Int} (h : credOkB k a b w c d e f u n = true) :
  (1 ≤ k ∧ k ≤ 4) ∧ (0 ≤ a ∧ a ≤ 5) ∧ (0 ≤ b ∧ b ≤ 3) ∧ (0 ≤ w ∧ w ≤ 5) ∧ (0 ≤ c ∧ c ≤ 5) ∧ (0 ≤ d ∧ d ≤ 3) ∧ (0 ≤ e ∧ e ≤ 5) ∧ (0 ≤ f ∧ f ≤ 3) ∧ (1 ≤ u ∧ u ≤ 9999) ∧ (0 ≤ n ∧ n ≤ 99) := by
 unfold credOkB at h
 by_cases h1 : k = 1
 ·simp [h1, inB, roleOkB] at h; omega
 ·by_cases h2 : k = 2
  ·simp [h2, inB, roleOkB] at h; omega
  ·by_cases h3 : k = 3
   ·simp [h3, inB, roleOkB] at h; omega
   ·by_cases h4 : k = 4
    ·simp [h4, inB, roleOkB] at h; omega
    ·simp [h1, h2, h3, h4] at h
end Q
end Go.Proofs.Yteppfdkfikeclaa
