/- Facts of the whole program, each once. -/
import Derived.Test.YtingghknjicpjaaChecked
import Derived.Test.YtingghknjicpjaaRows
import Derived.JoinedOf
import Derived.WalkKit
import Derived.ProofKit
import Derived.OpenShut
import Derived.ShutString
import Derived.ChangeOld
import Derived.Below
import Derived.SizedLaws
namespace Go.Proofs.Ytingghknjicpjaa.Facts
open Go.ChangeShapes Go.WideShapes Go.ChangeAt Go.RowKit
theorem own : ownKnob Try.prog.godebug = none := by kernel_rfl
theorem laidOut : laidOutB Try.prog = true := by kernel_rfl
theorem laid : laidOutB Try.pinned.checked.prog = true := laidOut
theorem may : Program.mayEnter Try.pinned.checked.prog = true := by kernel_rfl
theorem stops : ((Program.stops Try.pinned.checked.prog) == []) = true := by kernel_rfl
theorem heard : Program.stopsHeard Try.pinned.checked.prog = true := by kernel_rfl
theorem maps : mapsRowed Try.pinned.checked.prog = true := by kernel_rfl
end Go.Proofs.Ytingghknjicpjaa.Facts
