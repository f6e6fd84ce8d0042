/-
Policies: what is copied is the same list again; PolicyOk of the reference and of the program are one plain function.
-/
import Derived.Test.YtamhfnedknjjbaaKTQ0
namespace Go.Proofs.Ytamhfnedknjjbaa
open Go.RowKit Go.Proofs.YtamhfnedknjjbaaW.PrintWords Go.Proofs.YtamhfnedknjjbaaW.PrintLast Go.Proofs.YtamhfnedknjjbaaW.PrintMore Go.Proofs.Ytamhfnedknjjbaa.PB
set_option linter.unusedVariables false
set_option linter.unusedSimpArgs false
namespace Q
abbrev Role := S26
end Q
end Go.Proofs.Ytamhfnedknjjbaa
