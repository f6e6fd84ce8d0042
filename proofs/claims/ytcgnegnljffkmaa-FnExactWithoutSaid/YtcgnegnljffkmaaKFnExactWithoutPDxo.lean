import Derived.Test.YtcgnegnljffkmaaKFnExactWithoutPDx0
import Derived.Test.YtcgnegnljffkmaaKFnExactWithoutZOpen
-- A text of this claim: written by the session's own program out of the translation (wip/tools). Lean checks it.
namespace Go.Proofs.Ytcgnegnljffkmaa.PD
open Go.RowKit Go.Proofs.YtcgnegnljffkmaaW.PrintWords Go.Proofs.YtcgnegnljffkmaaW.PrintLast Go.Proofs.YtcgnegnljffkmaaW.PrintMore
attribute [local go_sem] max2_int min2_int max_two min_two max_three min_three max_four min_four   -- for this text's walks alone
set_option linter.unusedVariables false
set_option linter.unusedSimpArgs false
def G23 (x : S23) : Prop := I64 x.f0 ∧ I64 x.f1
theorem op23 : Opens Try.prog k23 23 G23 := Opens.struct (fun x : S23 => (x.f0, x.f1)) (fun a => ⟨a.1, a.2⟩) (fun _ => rfl) Try.underlying23 (by kernel_rfl) (OpensF.cons (Opens.i64 Try.underlying3 (by kernel_rfl)) rfl (OpensF.last (Opens.i64 Try.underlying3 (by kernel_rfl))))
def G25 (x : S25) : Prop := I64 x.f0 ∧ (G23 x.f1 ∧ (I64 x.f2 ∧ (G23 x.f3 ∧ (G23 x.f4 ∧ (I64 x.f5 ∧ I64 x.f6)))))
theorem op25 : Opens Try.prog k25 25 G25 := Opens.struct (fun x : S25 => (x.f0, x.f1, x.f2, x.f3, x.f4, x.f5, x.f6)) (fun a => ⟨a.1, a.2.1, a.2.2.1, a.2.2.2.1, a.2.2.2.2.1, a.2.2.2.2.2.1, a.2.2.2.2.2.2⟩) (fun _ => rfl) Try.underlying25 (by kernel_rfl) (OpensF.cons (Opens.i64 Try.underlying3 (by kernel_rfl)) rfl (OpensF.cons op23 rfl (OpensF.cons (Opens.i64 Try.underlying3 (by kernel_rfl)) rfl (OpensF.cons op23 rfl (OpensF.cons op23 rfl (OpensF.cons (Opens.i64 Try.underlying3 (by kernel_rfl)) rfl (OpensF.last (Opens.i64 Try.underlying3 (by kernel_rfl)))))))))
end Go.Proofs.Ytcgnegnljffkmaa.PD
