/-
Plain facts that the pure proofs share: rounds, whole numbers, bytes, and the small functions (ranges, circles, words, numbers as bytes) of the reference and of the program.
-/
import Derived.Test.YtkimdmdkldlhpaaKCPAxo
import Derived.Test.YtkimdmdkldlhpaaKCPAx2
namespace Go.Proofs.Ytkimdmdkldlhpaa
open Go.RowKit Go.Proofs.YtkimdmdkldlhpaaW.PrintWords Go.Proofs.YtkimdmdkldlhpaaW.PrintLast Go.Proofs.YtkimdmdkldlhpaaW.PrintMore Go.Proofs.Ytkimdmdkldlhpaa.PA
set_option linter.unusedVariables false
set_option linter.unusedSimpArgs false
namespace Q
theorem Ev.succ {α : Type} {g : Nat → Option α} {r : α} (h : Ev (fun k => g (k + 1)) r) : Ev g r := Ev.step (fun _ => rfl) h
theorem Ev.get {α : Type} {g : Nat → Option α} {r : α} (h : Ev g r) : ∃ k, g k = some r := h.rounds
theorem w64 {n : Int} (h0 : -9223372036854775808 ≤ n) (h1 : n ≤ 9223372036854775807) : wrap64 n = n := by unfold wrap64; omega
theorem toList_mk (l : List UInt8) : (⟨l.toArray⟩ : ByteArray).toList = l := by
 have key : ∀ (n i : Nat) (r : List UInt8), l.length - i = n → ByteArray.toList.loop ⟨l.toArray⟩ i r = r.reverse ++ l.drop i := by
  intro n
  induction n with
  | zero =>
   intro i r h
   unfold ByteArray.toList.loop
   have : ¬ i < (⟨l.toArray⟩ : ByteArray).size := by show ¬ i < l.toArray.size; simp; omega
   rw [if_neg this, List.drop_of_length_le (by omega), List.append_nil]
  | succ n ih =>
   intro i r h
   unfold ByteArray.toList.loop
   have hlt : i < l.length := by omega
   have : i < (⟨l.toArray⟩ : ByteArray).size := by show i < l.toArray.size; simpa using hlt
   rw [if_pos this, ih (i + 1) _ (by omega), List.drop_eq_getElem_cons hlt]
   have : (⟨l.toArray⟩ : ByteArray).get! i = l[i] := by
    show l.toArray[i]! = l[i]
    simp [hlt]
   rw [this]
   simp
 have := key l.length 0 [] (by omega)
 simpa [ByteArray.toList] using this
theorem toList_eq (b : ByteArray) : b.toList = b.data.toList := by
 obtain ⟨⟨l⟩⟩ := b
 exact toList_mk l
theorem toList_inj {a b : ByteArray} (h : a.toList = b.toList) : a = b := by
 obtain ⟨⟨a⟩⟩ := a
 obtain ⟨⟨b⟩⟩ := b
 rw [toList_mk, toList_mk] at h
 rw [h]
theorem Ev.up0 {ρ : Type} (n : Nat) (F : Nat → Nat → Option ρ) (R : Nat → ρ) (step : ∀ i, i < n → Ev (F (i + 1)) (R (i + 1)) → Ev (F i) (R i)) (fin : Ev (F n) (R n)) : ∀ i, i ≤ n → Ev (F i) (R i) := by
 have key : ∀ d i, n - i = d → i ≤ n → Ev (F i) (R i) := by
  intro d
  induction d with
  | zero =>
   intro i h1 h2
   obtain rfl : i = n := by omega
   exact fin
  | succ d ih => exact fun i h1 h2 => step i (by omega) (ih (i + 1) (by omega) (by omega))
 exact fun i h => key _ i rfl h
theorem Ev.up {σ ρ : Type} (n : Nat) (F : Nat → σ → Nat → Option ρ) (R : Nat → σ → ρ) (Inv : Nat → σ → Prop)
  (step : ∀ i s, i < n → Inv i s → (∀ s', Inv (i + 1) s' → Ev (F (i + 1) s') (R (i + 1) s')) → Ev (F i s) (R i s))
  (fin : ∀ s, Inv n s → Ev (F n s) (R n s)) : ∀ i s, i ≤ n → Inv i s → Ev (F i s) (R i s) := by
 have key : ∀ d i s, n - i = d → i ≤ n → Inv i s → Ev (F i s) (R i s) := by
  intro d
  induction d with
  | zero =>
   intro i s h1 h2 h3
   obtain rfl : i = n := by omega
   exact fin s h3
  | succ d ih => exact fun i s h1 h2 h3 => step i s (by omega) h3 (fun s' h => ih (i + 1) s' (by omega) (by omega) h)
 exact fun i s h h2 => key _ i s rfl h h2
def allFrom (p : Nat → Bool) (n i : Nat) : Bool := if i < n then p i && allFrom p n (i + 1) else true
 termination_by n - i
theorem allFrom_lt {p : Nat → Bool} {n i : Nat} (h : i < n) : allFrom p n i = (p i && allFrom p n (i + 1)) := by rw [allFrom, if_pos h]
theorem allFrom_ge {p : Nat → Bool} {n i : Nat} (h : ¬ i < n) : allFrom p n i = true := by rw [allFrom, if_neg h]
theorem nat_lt {a b : Nat} : ((a : Int) < (b : Int)) = (a < b) := by simp
theorem nat_0 (a : Nat) : ((0 : Int) ≤ (a : Int)) = True := by simp
theorem up_ {i : Nat} (h : i < 4611686018427387904) : wrap64 ((i : Int) + 1) = ((i + 1 : Nat) : Int) := by rw [w64 (by omega) (by omega)]; omega
theorem fill_ {α β : Type} (l : List α) (f : α → β) (z : β) (i : Nat) (h : i < l.length) :
  ((l.take i).map f ++ List.replicate (l.length - i) z).set i (f l[i]) = (l.take (i + 1)).map f ++ List.replicate (l.length - (i + 1)) z := by
 have e1 : ((l.take i).map f).length = i := by rw [List.length_map, List.length_take]; omega
 rw [List.set_append, if_neg (by omega), e1, Nat.sub_self, show l.length - i = (l.length - (i + 1)) + 1 by omega, List.replicate_succ, List.set_cons_zero,
  List.take_succ_eq_append_getElem h, List.map_append, List.append_assoc]
 rfl
theorem fill_len {α β : Type} (l : List α) (f : α → β) (z : β) (i : Nat) (h : i ≤ l.length) : ((l.take i).map f ++ List.replicate (l.length - i) z).length = l.length := by
 simp; omega
theorem fill_0 {α β : Type} (l : List α) (f : α → β) (z : β) : (l.take 0).map f ++ List.replicate (l.length - 0) z = List.replicate l.length z := by simp
theorem fill_n {α β : Type} (l : List α) (f : α → β) (z : β) : (l.take l.length).map f ++ List.replicate (l.length - l.length) z = l.map f := by simp
end Q
end Go.Proofs.Ytkimdmdkldlhpaa
