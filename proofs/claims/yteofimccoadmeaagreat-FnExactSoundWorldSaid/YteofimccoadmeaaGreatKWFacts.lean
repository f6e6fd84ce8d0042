/- Facts of the whole program, each once. -/
import Derived.Test.YteofimccoadmeaaGreatChecked
import Derived.Test.YteofimccoadmeaaGreatRows
import Derived.JoinedOf
import Derived.WalkKit
import Derived.ProofKit
import Derived.OpenShut
import Derived.ShutString
import Derived.ChangeOld
import Derived.Below
import Derived.SizedLaws
namespace Go.Proofs.YteofimccoadmeaaGreat.Facts
open Go.ChangeShapes Go.WideShapes Go.ChangeAt Go.RowKit
theorem own : ownKnob Tryz.prog.godebug = none := by kernel_rfl
theorem laidOut : laidOutB Tryz.prog = true := by kernel_rfl
theorem laid : laidOutB Tryz.pinned.checked.prog = true := laidOut
theorem may : Program.mayEnter Tryz.pinned.checked.prog = true := by kernel_rfl
theorem stops : ((Program.stops Tryz.pinned.checked.prog) == []) = true := by kernel_rfl
theorem heard : Program.stopsHeard Tryz.pinned.checked.prog = true := by kernel_rfl
theorem maps : mapsRowed Tryz.pinned.checked.prog = true := by kernel_rfl
end Go.Proofs.YteofimccoadmeaaGreat.Facts
