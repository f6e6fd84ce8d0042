/-
Policies as texts: the reference's and the program's PolicyText put the same bytes together.
-/
import Derived.Test.YtppdmcimddhbaaaKNQ2
namespace Go.Proofs.Ytppdmcimddhbaaa
open Go.RowKit Go.Proofs.YtppdmcimddhbaaaW.PrintWords Go.Proofs.YtppdmcimddhbaaaW.PrintLast Go.Proofs.YtppdmcimddhbaaaW.PrintMore Go.Proofs.Ytppdmcimddhbaaa.PE
set_option linter.unusedVariables false
set_option linter.unusedSimpArgs false
namespace Q
theorem policyOk_nodes {l : List Node} (h : policyOkB l = true) : (1 ≤ l.length ∧ l.length ≤ 40) ∧ ∀ (i : Nat) (hi : i < l.length), nodeOkB i l[i] = true := by
 unfold policyOkB nodesB at h
 rw [Bool.and_eq_true, inB_iff, allFrom_iff l.length 0 rfl] at h
 refine ⟨by omega, fun i hi => ?_⟩
 have := h.2 i (Nat.zero_le _) hi
 rwa [getDn_ _ hi] at this
end Q
end Go.Proofs.Ytppdmcimddhbaaa
