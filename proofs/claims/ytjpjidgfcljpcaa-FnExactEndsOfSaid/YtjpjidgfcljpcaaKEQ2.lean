/-
Policies: what is copied is the same list again; PolicyOk of the reference and of the program are one plain function.
-/
import Derived.Test.YtjpjidgfcljpcaaKEPAx3
import Derived.Test.YtjpjidgfcljpcaaKEQ0
namespace Go.Proofs.Ytjpjidgfcljpcaa
open Go.RowKit Go.Proofs.YtjpjidgfcljpcaaW.PrintWords Go.Proofs.YtjpjidgfcljpcaaW.PrintLast Go.Proofs.YtjpjidgfcljpcaaW.PrintMore Go.Proofs.Ytjpjidgfcljpcaa.PA
set_option linter.unusedVariables false
set_option linter.unusedSimpArgs false
namespace Q
abbrev Role := S49
end Q
end Go.Proofs.Ytjpjidgfcljpcaa
