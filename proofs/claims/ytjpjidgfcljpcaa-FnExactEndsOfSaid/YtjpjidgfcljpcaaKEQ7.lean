/-
Circles in lists: looked for, put behind others once, marked and held; the circles of a policy.
-/
import Derived.Test.YtjpjidgfcljpcaaKEPAx13
import Derived.Test.YtjpjidgfcljpcaaKEQ2
namespace Go.Proofs.Ytjpjidgfcljpcaa
open Go.RowKit Go.Proofs.YtjpjidgfcljpcaaW.PrintWords Go.Proofs.YtjpjidgfcljpcaaW.PrintLast Go.Proofs.YtjpjidgfcljpcaaW.PrintMore Go.Proofs.Ytjpjidgfcljpcaa.PA
set_option linter.unusedVariables false
set_option linter.unusedSimpArgs false
namespace Q
def isRole (a b : Int) (x : Role) : Bool := a == x.f0 && b == x.f1
def addR (l : List Role) (r : Role) : List Role := if l.any (isRole r.f0 r.f1) = true then l else l ++ [r]
end Q
end Go.Proofs.Ytjpjidgfcljpcaa
