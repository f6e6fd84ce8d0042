/-
Policies: more words tell no less; not twice; a policy comes back from its text; Rising of what has no not.
-/
import Derived.Test.YtppdmcimddhbaaaKNQ21
namespace Go.Proofs.Ytppdmcimddhbaaa
open Go.RowKit Go.Proofs.YtppdmcimddhbaaaW.PrintWords Go.Proofs.YtppdmcimddhbaaaW.PrintLast Go.Proofs.YtppdmcimddhbaaaW.PrintMore Go.Proofs.Ytppdmcimddhbaaa.PE
set_option linter.unusedVariables false
set_option linter.unusedSimpArgs false
namespace Q
def LeB (a b : List Bool) : Prop := a.length = b.length ∧ ∀ i : Int, rdOf false a i = true → rdOf false b i = true
theorem LeB.snoc {a b : List Bool} {x y : Bool} (h : LeB a b) (hxy : x = true → y = true) : LeB (a ++ [x]) (b ++ [y]) := by
 obtain ⟨h1, h2⟩ := h
 refine ⟨by simp [h1], fun i hi => ?_⟩
 have h3 := h2 i
 unfold rdOf at h3 hi ⊢
 rw [List.getD_eq_getElem?_getD, List.getElem?_append] at hi ⊢
 rw [List.getD_eq_getElem?_getD, List.getD_eq_getElem?_getD] at h3
 by_cases hl : i.toNat < a.length
 ·rw [if_pos hl] at hi
  rw [if_pos (by omega)]
  exact h3 hi
 ·rw [if_neg hl] at hi
  rw [if_neg (by omega), ← h1]
  by_cases he : i.toNat - a.length = 0
  ·rw [he] at hi ⊢
   simp at hi ⊢
   exact hxy hi
  ·obtain ⟨m, hm⟩ : ∃ m, i.toNat - a.length = m + 1 := ⟨i.toNat - a.length - 1, by omega⟩
   rw [hm] at hi
   simp at hi
theorem addR_ge (l : List Role) (r : Role) : l.length ≤ (addR l r).length := by
 unfold addR
 split <;> simp
theorem rolesB_ge : ∀ (l : List Node) (acc : List Role), acc.length ≤ (rolesB l acc).length := by
 intro l
 induction l with
 | nil => intro acc; exact Nat.le_refl _
 | cons x xs ih =>
  intro acc
  show _ ≤ (rolesB xs (if x.f0 = 1 then addR acc x.f1 else acc)).length
  refine Nat.le_trans ?_ (ih _)
  split
  ·exact addR_ge _ _
  ·exact Nat.le_refl _
theorem roles_one {most : Int} {q : List Node} (h : GoodP most q) (h1 : 1 ≤ q.length) (h2 : q.length ≤ 40) : 1 ≤ (policyRolesB q).length := by
 unfold policyRolesB
 rw [if_pos (h.ok h1 h2)]
 match q, h, h1 with
 | x :: xs, h, _ =>
  have hx : x.f0 = 1 := h.2 (by simp)
  show 1 ≤ (rolesB xs (if x.f0 = 1 then addR [] x.f1 else [])).length
  rw [if_pos hx]
  exact Nat.le_trans (by simp [addR]) (rolesB_ge xs _)
def u8 (x : Int) : UInt8 := UInt8.ofNat x.toNat
end Q
end Go.Proofs.Ytppdmcimddhbaaa
