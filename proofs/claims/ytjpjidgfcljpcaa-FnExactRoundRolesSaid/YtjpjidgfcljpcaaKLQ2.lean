/-
Policies: what is copied is the same list again; PolicyOk of the reference and of the program are one plain function.
-/
import Derived.Test.YtjpjidgfcljpcaaKLPAx3
import Derived.Test.YtjpjidgfcljpcaaKLQ0
namespace Go.Proofs.Ytjpjidgfcljpcaa
open Go.RowKit Go.Proofs.YtjpjidgfcljpcaaW.PrintWords Go.Proofs.YtjpjidgfcljpcaaW.PrintLast Go.Proofs.YtjpjidgfcljpcaaW.PrintMore Go.Proofs.Ytjpjidgfcljpcaa.PA
set_option linter.unusedVariables false
set_option linter.unusedSimpArgs false
namespace Q
abbrev Role := S49
theorem eqRole_refl (a b : Int) : laws_eqRole.f a b a b = some true := by unfold laws_eqRole.f; simp
end Q
end Go.Proofs.Ytjpjidgfcljpcaa
