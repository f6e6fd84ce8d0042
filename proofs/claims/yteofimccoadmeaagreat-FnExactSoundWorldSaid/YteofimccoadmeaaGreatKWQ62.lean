/-
Steps, by a short name.
-/
import Derived.Test.YteofimccoadmeaaGreatKWQ15
namespace Go.Proofs.YteofimccoadmeaaGreat
open Go.RowKit Go.Proofs.YteofimccoadmeaaGreatW.PrintWords Go.Proofs.YteofimccoadmeaaGreatW.PrintLast Go.Proofs.YteofimccoadmeaaGreatW.PrintMore Go.Proofs.YteofimccoadmeaaGreat.PA
namespace Q
abbrev Step := S111
end Q
end Go.Proofs.YteofimccoadmeaaGreat
