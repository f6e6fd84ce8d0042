import Derived.Test.YtjpjidgfcljpcaaKEPAx3
import Derived.Test.YtjpjidgfcljpcaaKEPAx10
-- printed by wip/tools
namespace Go.Proofs.Ytjpjidgfcljpcaa.PA
open Go.RowKit Go.Proofs.YtjpjidgfcljpcaaW.PrintWords Go.Proofs.YtjpjidgfcljpcaaW.PrintLast Go.Proofs.YtjpjidgfcljpcaaW.PrintMore
attribute [local go_sem] max2_int min2_int max_two min_two max_three min_three max_four min_four
set_option linter.unusedVariables false
set_option linter.unusedSimpArgs false
attribute [local go_sem high] eqA49
def laws_eqRoleS.T6 : Bool × List (List Nat × List Nat) := (true, [([], []), ([], []), ([0, 1], [0, 1]), ([2], [2]), ([], []), ([], []), ([4, 5], [4, 5]), ([6], [6]), ([3, 7], [3, 7]), ([8], [8])])
def laws_eqRoleS.B6 : List Nat := [0, 0, 3, 7, 0, 0, 48, 112, 255, 511]
theorem laws_eqRoleS.tab6 : rtab .any (opsOf Try.f72 6) = laws_eqRoleS.T6 := by kernel_rfl
theorem laws_eqRoleS.bits6 : waitsOk laws_eqRoleS.T6.2 laws_eqRoleS.B6 = true := by kernel_rfl
end Go.Proofs.Ytjpjidgfcljpcaa.PA
