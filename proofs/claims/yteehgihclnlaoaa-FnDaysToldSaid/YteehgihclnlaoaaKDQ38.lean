/-
What a sort gives is sorted (the first theorem of Q26, alone: for prints without circles).
-/
import Derived.Test.YteehgihclnlaoaaKDQ16
namespace Go.Proofs.Yteehgihclnlaoaa
open Go.RowKit Go.Proofs.YteehgihclnlaoaaW.PrintWords Go.Proofs.YteehgihclnlaoaaW.PrintLast Go.Proofs.YteehgihclnlaoaaW.PrintMore Go.Proofs.Yteehgihclnlaoaa.PA
set_option linter.unusedVariables false
set_option linter.unusedSimpArgs false
namespace Q
theorem leI_sorted (l : List Int) : (l.mergeSort fun x y => decide (x ≤ y)).Pairwise (fun a b => a ≤ b) := by
 have h := List.pairwise_mergeSort (le := fun x y : Int => decide (x ≤ y)) (fun a b c h1 h2 => by simp only [decide_eq_true_eq] at *; exact Int.le_trans h1 h2) (fun a b => by simp only [Bool.or_eq_true, decide_eq_true_eq]; exact Int.le_total a b) l
 exact h.imp (fun h => by simpa using h)
end Q
end Go.Proofs.Yteehgihclnlaoaa
