/-
The program's own way to the facts of words: where they stand, what a word tells behind them, and that it finds the same facts; who is alive; who is a member.
-/
import Derived.Test.YtjpjidgfcljpcaaKEQ13
namespace Go.Proofs.Ytjpjidgfcljpcaa
open Go.RowKit Go.Proofs.YtjpjidgfcljpcaaW.PrintWords Go.Proofs.YtjpjidgfcljpcaaW.PrintLast Go.Proofs.YtjpjidgfcljpcaaW.PrintMore Go.Proofs.Ytjpjidgfcljpcaa.PA
set_option linter.unusedVariables false
set_option linter.unusedSimpArgs false
namespace Q
theorem rdI {ws : List Int} {i : Nat} (h : i < ws.length) : rd ws (i : Int) = ws[i] := by simp [rd, h]
end Q
end Go.Proofs.Ytjpjidgfcljpcaa
