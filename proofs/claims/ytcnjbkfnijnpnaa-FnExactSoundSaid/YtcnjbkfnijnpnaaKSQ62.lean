/-
Steps, by a short name.
-/
import Derived.Test.YtcnjbkfnijnpnaaKSQ15
namespace Go.Proofs.Ytcnjbkfnijnpnaa
open Go.RowKit Go.Proofs.YtcnjbkfnijnpnaaW.PrintWords Go.Proofs.YtcnjbkfnijnpnaaW.PrintLast Go.Proofs.YtcnjbkfnijnpnaaW.PrintMore Go.Proofs.Ytcnjbkfnijnpnaa.PA
namespace Q
abbrev Step := S80
end Q
end Go.Proofs.Ytcnjbkfnijnpnaa
