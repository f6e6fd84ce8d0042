/-
Facts that follow from words: the program's list of what a word tells, the facts of a list of words as both tell them, and what it means to be one of them.
-/
import Derived.Test.YtjpjidgfcljpcaaKEQ7
namespace Go.Proofs.Ytjpjidgfcljpcaa
open Go.RowKit Go.Proofs.YtjpjidgfcljpcaaW.PrintWords Go.Proofs.YtjpjidgfcljpcaaW.PrintLast Go.Proofs.YtjpjidgfcljpcaaW.PrintMore Go.Proofs.Ytjpjidgfcljpcaa.PA
set_option linter.unusedVariables false
set_option linter.unusedSimpArgs false
namespace Q
abbrev Rl := S49
abbrev Fc := S51
abbrev Cr := S56
instance decRl : DecidableEq Rl := fun a b => decidable_of_iff (a.f0 = b.f0 ∧ a.f1 = b.f1) (by cases a; cases b; simp)
instance decFc : DecidableEq Fc := fun a b => decidable_of_iff (a.f0 = b.f0 ∧ a.f1 = b.f1) (by cases a; cases b; simp)
def cOk (c : Cr) : Bool := credOkB c.f0 c.f1.f0 c.f1.f1 c.f2 c.f3.f0 c.f3.f1 c.f4.f0 c.f4.f1 c.f5 c.f6
theorem nodup_le {α : Type} [DecidableEq α] : ∀ (l u : List α), l.Nodup → (∀ x ∈ l, x ∈ u) → l.length ≤ u.length := by
 intro l
 induction l with
 | nil => intro u _ _; simp
 | cons x xs ih =>
  intro u h1 h2
  rw [List.nodup_cons] at h1
  have hx := h2 x (by simp)
  have := ih (u.erase x) h1.2 (fun y hy => (List.mem_erase_of_ne (by rintro rfl; exact h1.1 hy)).2 (h2 y (by simp [hy])))
  rw [List.length_erase_of_mem hx] at this
  have hp := List.length_pos_of_mem hx
  rw [List.length_cons]
  omega
end Q
end Go.Proofs.Ytjpjidgfcljpcaa
