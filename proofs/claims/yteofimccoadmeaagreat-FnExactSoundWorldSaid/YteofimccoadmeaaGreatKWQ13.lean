/-
Facts that follow from words: the program's list of what a word tells, the facts of a list of words as both tell them, and what it means to be one of them.
-/
import Derived.Test.YteofimccoadmeaaGreatKWQ0
namespace Go.Proofs.YteofimccoadmeaaGreat
open Go.RowKit Go.Proofs.YteofimccoadmeaaGreatW.PrintWords Go.Proofs.YteofimccoadmeaaGreatW.PrintLast Go.Proofs.YteofimccoadmeaaGreatW.PrintMore Go.Proofs.YteofimccoadmeaaGreat.PA
set_option linter.unusedVariables false
set_option linter.unusedSimpArgs false
namespace Q
abbrev Rl := S77
abbrev Fc := S79
abbrev Cr := S83
instance decRl : DecidableEq Rl := fun a b => decidable_of_iff (a.f0 = b.f0 ∧ a.f1 = b.f1) (by cases a; cases b; simp)
instance decFc : DecidableEq Fc := fun a b => decidable_of_iff (a.f0 = b.f0 ∧ a.f1 = b.f1) (by cases a; cases b; simp)
def cOk (c : Cr) : Bool := credOkB c.f0 c.f1.f0 c.f1.f1 c.f2 c.f3.f0 c.f3.f1 c.f4.f0 c.f4.f1 c.f5 c.f6
end Q
end Go.Proofs.YteofimccoadmeaaGreat
