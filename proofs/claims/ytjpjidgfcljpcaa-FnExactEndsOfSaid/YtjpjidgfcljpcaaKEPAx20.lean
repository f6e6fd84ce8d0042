import Derived.Test.YtjpjidgfcljpcaaKEPAx13
-- printed by wip/tools
namespace Go.Proofs.Ytjpjidgfcljpcaa.PA
open Go.RowKit Go.Proofs.YtjpjidgfcljpcaaW.PrintWords Go.Proofs.YtjpjidgfcljpcaaW.PrintLast Go.Proofs.YtjpjidgfcljpcaaW.PrintMore
attribute [local go_sem] max2_int min2_int max_two min_two max_three min_three max_four min_four
set_option linter.unusedVariables false
set_option linter.unusedSimpArgs false
attribute [local go_sem high] eqA49
def spec_NeededFor.T6 : Bool × List (List Nat × List Nat) := (true, [([], []), ([], []), ([0, 1], [0, 1]), ([2], [2]), ([3], [3]), ([4, 4], [4]), ([5], [5]), ([5], [5]), ([6, 7, 5], [5, 6, 7]), ([8, 5], [5, 8]), ([9, 5], [5, 9]), ([5], [5]), ([10, 11, 5], [5, 10, 11]), ([12, 5, 5], [5, 12]), ([13], [13]), ([13], [13]), ([13], [13]), ([15, 16, 13], [13, 15, 16]), ([17, 13], [13, 17]), ([18, 13], [13, 18]), ([14, 19, 13, 13], [13, 14, 19]), ([13, 20, 5], [5, 13, 20]), ([5, 21], [5, 21])])
def spec_NeededFor.B6 : List Nat := [0, 0, 3, 7, 15, 31, 63, 63, 255, 511, 1023, 63, 4095, 8191, 16383, 16383, 16383, 114687, 245759, 507903, 1048575, 2097151, 4194303]
theorem spec_NeededFor.tab6 : rtab .any (opsOf Try.f76 6) = spec_NeededFor.T6 := by kernel_rfl
theorem spec_NeededFor.bits6 : waitsOk spec_NeededFor.T6.2 spec_NeededFor.B6 = true := by kernel_rfl
end Go.Proofs.Ytjpjidgfcljpcaa.PA
