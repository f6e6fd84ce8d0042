/-
How deep a proof is: the reference and the program are one plain function.
-/
import Derived.Test.YtppdmcimddhbaaaKFnExactTreeSizePAx0
import Derived.Test.YtppdmcimddhbaaaKFnExactTreeSizePAxo
import Derived.Test.YtppdmcimddhbaaaKFnExactTreeSizePAx5
import Derived.Test.YtppdmcimddhbaaaKFnExactTreeSizePAx7
import Derived.Test.YtppdmcimddhbaaaKFnExactTreeSizePAx8
import Derived.Test.YtppdmcimddhbaaaKFnExactTreeSizePAx9
import Derived.Test.YtppdmcimddhbaaaKFnExactTreeSizeQ10
namespace Go.Proofs.Ytppdmcimddhbaaa
open Go.RowKit Go.Proofs.YtppdmcimddhbaaaW.PrintWords Go.Proofs.YtppdmcimddhbaaaW.PrintLast Go.Proofs.YtppdmcimddhbaaaW.PrintMore Go.Proofs.Ytppdmcimddhbaaa.PA
set_option linter.unusedVariables false
set_option linter.unusedSimpArgs false
namespace Q
theorem stp_mem (l : List Step) (i : Nat) (h : i < l.length) : stp l i = l[i] := by simp [stp, rd_T105, h]
def okFrom (l : List Step) (n : Nat) : Nat → Bool := allFrom (fun j => stepOkB l (j : Int)) n
theorem impl_allStepsOk (l : List Step) (hl : l.length ≤ 1048576) (hp : ∀ x ∈ l, x.f2.length ≤ 1048576) (n : Nat) (hn : n ≤ l.length) : Ev (fun k => impl_allStepsOk.f k l ((n : Int) - 1)) (okFrom l n 0) := by
  unfold impl_allStepsOk.f
  refine Ev.up0 n (fun i k => impl_allStepsOk.l0 k l ((n : Int) - 1) i) (fun i => okFrom l n i) ?_ ?_ 0 (Nat.zero_le _)
  · intro i hi ih
    refine Ev.succ ?_
    simp only [impl_allStepsOk.l0, show ((i : Nat) : Int) ≤ (n : Int) - 1 by omega, ↓reduceIte, up_ (show i < 4611686018427387904 by omega)]
    refine Ev.bind (impl_StepOk l hl hp i) ?_
    have e0 : okFrom l n i = (stepOkB l i && okFrom l n (i + 1)) := by unfold okFrom; rw [allFrom_lt hi]
    rw [e0]
    cases stepOkB l i
    · simpa using Ev.now false
    · simpa using ih
  · refine Ev.succ ?_
    simp only [impl_allStepsOk.l0, show ¬ (((n : Nat) : Int) ≤ (n : Int) - 1) by omega, ↓reduceIte]
    unfold okFrom
    rw [allFrom_ge (Nat.lt_irrefl _)]
    exact Ev.now _
theorem rd_bd {D : List Int} {B p : Int} (hb : ∀ x ∈ D, 0 ≤ x ∧ x ≤ B) (h0 : 0 ≤ p) (h1 : p < D.length) : 0 ≤ rd D p ∧ rd D p ≤ B := by
  have : rd D p = D[p.toNat]'(by omega) := by simp [rd, show p.toNat < D.length by omega]
  rw [this]
  exact hb _ (List.getElem_mem _)
theorem step_pre {l : List Step} {i : Nat} (hi : i < l.length) (h : stepOkB l i = true) : (stp l i).f2.all (fun p => inB p 0 ((i : Int) - 1)) = true := by
  unfold stepOkB stepB at h
  simp only [Bool.and_eq_true] at h
  exact h.2.2.2.1
theorem okFrom_lt {l : List Step} {n i : Nat} (h : i < n) : okFrom l n i = (stepOkB l i && okFrom l n (i + 1)) := by unfold okFrom; rw [allFrom_lt h]
theorem okFrom_ge {l : List Step} {n : Nat} : okFrom l n n = true := by unfold okFrom; rw [allFrom_ge (Nat.lt_irrefl _)]
end Q
end Go.Proofs.Ytppdmcimddhbaaa
