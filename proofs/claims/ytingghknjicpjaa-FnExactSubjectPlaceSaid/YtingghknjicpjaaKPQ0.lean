/-
Plain facts that the pure proofs share: rounds, whole numbers, bytes, and the small functions (ranges, circles, words, numbers as bytes) of the reference and of the program.
-/
import Derived.Test.YtingghknjicpjaaKPZOpen
import Derived.Test.YtingghknjicpjaaKPPBx1
namespace Go.Proofs.Ytingghknjicpjaa
open Go.RowKit Go.Proofs.YtingghknjicpjaaW.PrintWords Go.Proofs.YtingghknjicpjaaW.PrintLast Go.Proofs.YtingghknjicpjaaW.PrintMore Go.Proofs.Ytingghknjicpjaa.PB
set_option linter.unusedVariables false
set_option linter.unusedSimpArgs false
namespace Q
theorem Ev.succ {α : Type} {g : Nat → Option α} {r : α} (h : Ev (fun k => g (k + 1)) r) : Ev g r := Ev.step (fun _ => rfl) h
theorem Ev.get {α : Type} {g : Nat → Option α} {r : α} (h : Ev g r) : ∃ k, g k = some r := h.rounds
theorem w64 {n : Int} (h0 : -9223372036854775808 ≤ n) (h1 : n ≤ 9223372036854775807) : wrap64 n = n := by unfold wrap64; omega
theorem toList_mk (l : List UInt8) : (⟨l.toArray⟩ : ByteArray).toList = l := by
 have key : ∀ (n i : Nat) (r : List UInt8), l.length - i = n → ByteArray.toList.loop ⟨l.toArray⟩ i r = r.reverse ++ l.drop i := by
  intro n
  induction n with
  | zero =>
   intro i r h
   unfold ByteArray.toList.loop
   have : ¬ i < (⟨l.toArray⟩ : ByteArray).size := by show ¬ i < l.toArray.size; simp; omega
   rw [if_neg this, List.drop_of_length_le (by omega), List.append_nil]
  | succ n ih =>
   intro i r h
   unfold ByteArray.toList.loop
   have hlt : i < l.length := by omega
   have : i < (⟨l.toArray⟩ : ByteArray).size := by show i < l.toArray.size; simpa using hlt
   rw [if_pos this, ih (i + 1) _ (by omega), List.drop_eq_getElem_cons hlt]
   have : (⟨l.toArray⟩ : ByteArray).get! i = l[i] := by
    show l.toArray[i]! = l[i]
    simp [hlt]
   rw [this]
   simp
 have := key l.length 0 [] (by omega)
 simpa [ByteArray.toList] using this
theorem toList_eq (b : ByteArray) : b.toList = b.data.toList := by
 obtain ⟨⟨l⟩⟩ := b
 exact toList_mk l
theorem toList_inj {a b : ByteArray} (h : a.toList = b.toList) : a = b := by
 obtain ⟨⟨a⟩⟩ := a
 obtain ⟨⟨b⟩⟩ := b
 rw [toList_mk, toList_mk] at h
 rw [h]
theorem strOfNums_size (l : List Int) : (strOfNums l).size = l.length := by
 show ((l.map fun n => UInt8.ofNat n.toNat).toArray).size = l.length
 simp
end Q
end Go.Proofs.Ytingghknjicpjaa
