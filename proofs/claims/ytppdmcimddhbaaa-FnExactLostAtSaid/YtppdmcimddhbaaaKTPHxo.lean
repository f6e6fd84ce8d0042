import Derived.Test.YtppdmcimddhbaaaKTPHx0
import Derived.Test.YtppdmcimddhbaaaKTZOpen
-- A text of this claim: written by the session's own program out of the translation (wip/tools). Lean checks it.
namespace Go.Proofs.Ytppdmcimddhbaaa.PH
open Go.RowKit Go.Proofs.YtppdmcimddhbaaaW.PrintWords Go.Proofs.YtppdmcimddhbaaaW.PrintLast Go.Proofs.YtppdmcimddhbaaaW.PrintMore
attribute [local go_sem] max2_int min2_int max_two min_two max_three min_three max_four min_four   -- for this text's walks alone
set_option linter.unusedVariables false
set_option linter.unusedSimpArgs false
def G58 (x : S58) : Prop := I64 x.f0 ∧ I64 x.f1
theorem op58 : Opens Try.prog k58 58 G58 := Opens.struct (fun x : S58 => (x.f0, x.f1)) (fun a => ⟨a.1, a.2⟩) (fun _ => rfl) Try.underlying58 (by kernel_rfl) (OpensF.cons (Opens.i64 Try.underlying3 (by kernel_rfl)) rfl (OpensF.last (Opens.i64 Try.underlying3 (by kernel_rfl))))
def G111 (x : S111) : Prop := I64 x.f0 ∧ (G58 x.f1 ∧ (I64 x.f2 ∧ (G58 x.f3 ∧ (G58 x.f4 ∧ (I64 x.f5 ∧ I64 x.f6)))))
theorem op111 : Opens Try.prog k111 111 G111 := Opens.struct (fun x : S111 => (x.f0, x.f1, x.f2, x.f3, x.f4, x.f5, x.f6)) (fun a => ⟨a.1, a.2.1, a.2.2.1, a.2.2.2.1, a.2.2.2.2.1, a.2.2.2.2.2.1, a.2.2.2.2.2.2⟩) (fun _ => rfl) Try.underlying111 (by kernel_rfl) (OpensF.cons (Opens.i64 Try.underlying3 (by kernel_rfl)) rfl (OpensF.cons op58 rfl (OpensF.cons (Opens.i64 Try.underlying3 (by kernel_rfl)) rfl (OpensF.cons op58 rfl (OpensF.cons op58 rfl (OpensF.cons (Opens.i64 Try.underlying3 (by kernel_rfl)) rfl (OpensF.last (Opens.i64 Try.underlying3 (by kernel_rfl)))))))))
end Go.Proofs.Ytppdmcimddhbaaa.PH
