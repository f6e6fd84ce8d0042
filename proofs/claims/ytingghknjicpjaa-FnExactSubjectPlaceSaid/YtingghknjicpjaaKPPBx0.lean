import Derived.Test.YtingghknjicpjaaKPSh3
import Derived.Test.YtingghknjicpjaaKPShelf
-- printed by wip/tools
namespace Go.Proofs.Ytingghknjicpjaa.PB
open Go.RowKit Go.Proofs.YtingghknjicpjaaW.PrintWords Go.Proofs.YtingghknjicpjaaW.PrintLast Go.Proofs.YtingghknjicpjaaW.PrintMore
attribute [local go_sem] max2_int min2_int max_two min_two max_three min_three max_four min_four
set_option linter.unusedVariables false
set_option linter.unusedSimpArgs false
def errW : Option Int → Value
 | none => .nilIface
 | some c => .iface 0 (.int .i64 c)
theorem errW_none : errW none = .nilIface := rfl
theorem errW_some (c : Int) : errW (some c) = .iface 0 (.int .i64 c) := rfl
theorem info3 : (Try.prog.info? 3).map (fun i => (i.zero, i.size, i.bytes)) = some (some (.int .i64 0), 1, 8) := by kernel_rfl
theorem info5 : (Try.prog.info? 5).map (fun i => (i.zero, i.size, i.bytes)) = some (some (.int .u8 0), 1, 1) := by kernel_rfl
theorem info25 : (Try.prog.info? 25).map (fun i => (i.zero, i.size, i.bytes)) = some (some (.int .u32 0), 1, 4) := by kernel_rfl
-- the values' own types
end Go.Proofs.Ytingghknjicpjaa.PB
