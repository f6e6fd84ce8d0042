import Derived.Test.YtcgnegnljffkmaaKFnExactRisingPEx0
import Derived.Test.YtcgnegnljffkmaaKFnExactRisingZOpen
-- A text of this claim: written by the session's own program out of the translation (wip/tools). Lean checks it.
namespace Go.Proofs.Ytcgnegnljffkmaa.PE
open Go.RowKit Go.Proofs.YtcgnegnljffkmaaW.PrintWords Go.Proofs.YtcgnegnljffkmaaW.PrintLast Go.Proofs.YtcgnegnljffkmaaW.PrintMore
attribute [local go_sem] max2_int min2_int max_two min_two max_three min_three max_four min_four   -- for this text's walks alone
set_option linter.unusedVariables false
set_option linter.unusedSimpArgs false
def G23 (x : S23) : Prop := I64 x.f0 ∧ I64 x.f1
theorem op23 : Opens Try.prog k23 23 G23 := Opens.struct (fun x : S23 => (x.f0, x.f1)) (fun a => ⟨a.1, a.2⟩) (fun _ => rfl) Try.underlying23 (by kernel_rfl) (OpensF.cons (Opens.i64 Try.underlying3 (by kernel_rfl)) rfl (OpensF.last (Opens.i64 Try.underlying3 (by kernel_rfl))))
def G150 (x : S150) : Prop := I64 x.f0 ∧ (G23 x.f1 ∧ (I64 x.f2 ∧ I64 x.f3))
theorem op150 : Opens Try.prog k150 150 G150 := Opens.struct (fun x : S150 => (x.f0, x.f1, x.f2, x.f3)) (fun a => ⟨a.1, a.2.1, a.2.2.1, a.2.2.2⟩) (fun _ => rfl) Try.underlying150 (by kernel_rfl) (OpensF.cons (Opens.i64 Try.underlying3 (by kernel_rfl)) rfl (OpensF.cons op23 rfl (OpensF.cons (Opens.i64 Try.underlying3 (by kernel_rfl)) rfl (OpensF.last (Opens.i64 Try.underlying3 (by kernel_rfl))))))
def G34 (x : S34) : Prop := All G150 x.f0
theorem op34 : Opens Try.prog k34 34 G34 := Opens.struct (fun x : S34 => x.f0) (fun a => ⟨a⟩) (fun _ => rfl) Try.underlying34 (by kernel_rfl) (OpensF.last (Opens.slice Try.underlying32 (by kernel_rfl) op150))
end Go.Proofs.Ytcgnegnljffkmaa.PE
