/-
Facts that follow from words: the program's list of what a word tells, the facts of a list of words as both tell them, and what it means to be one of them.
-/
import Derived.Test.YtcgnegnljffkmaaKFnExactWithoutPDx0
import Derived.Test.YtcgnegnljffkmaaKFnExactWithoutPDxo
import Derived.Test.YtcgnegnljffkmaaKFnExactWithoutQ0
namespace Go.Proofs.Ytcgnegnljffkmaa
open Go.RowKit Go.Proofs.YtcgnegnljffkmaaW.PrintWords Go.Proofs.YtcgnegnljffkmaaW.PrintLast Go.Proofs.YtcgnegnljffkmaaW.PrintMore Go.Proofs.Ytcgnegnljffkmaa.PD
set_option linter.unusedVariables false
set_option linter.unusedSimpArgs false
namespace Q
abbrev Rl := S27
abbrev Cr := S29
instance decRl : DecidableEq Rl := fun a b => decidable_of_iff (a.f0 = b.f0 ∧ a.f1 = b.f1) (by cases a; cases b; simp)
end Q
end Go.Proofs.Ytcgnegnljffkmaa
