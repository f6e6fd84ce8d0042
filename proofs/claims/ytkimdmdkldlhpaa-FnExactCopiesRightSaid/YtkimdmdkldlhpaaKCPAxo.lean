import Derived.Test.YtkimdmdkldlhpaaKCPAx0
import Derived.Test.YtkimdmdkldlhpaaKCZOpen
-- printed by wip/tools
namespace Go.Proofs.Ytkimdmdkldlhpaa.PA
open Go.RowKit Go.Proofs.YtkimdmdkldlhpaaW.PrintWords Go.Proofs.YtkimdmdkldlhpaaW.PrintLast Go.Proofs.YtkimdmdkldlhpaaW.PrintMore
attribute [local go_sem] max2_int min2_int max_two min_two max_three min_three max_four min_four
set_option linter.unusedVariables false
set_option linter.unusedSimpArgs false
def G118 (x : S118) : Prop := Short x.f0 ∧ True
theorem op118 : Opens Try.prog k118 118 G118 := Opens.struct (fun x : S118 => (x.f0, x.f1)) (fun a => ⟨a.1, a.2⟩) (fun _ => rfl) Try.underlying118 (by kernel_rfl) (OpensF.cons (Opens.string Try.underlying9 (by kernel_rfl)) rfl (OpensF.last (Opens.bool Try.underlying4 (by kernel_rfl))))
def G89 (x : S89) : Prop := I64 x.f0 ∧ All G118 x.f1
theorem op89 : Opens Try.prog k89 89 G89 := Opens.struct (fun x : S89 => (x.f0, x.f1)) (fun a => ⟨a.1, a.2⟩) (fun _ => rfl) Try.underlying89 (by kernel_rfl) (OpensF.cons (Opens.i64 Try.underlying3 (by kernel_rfl)) rfl (OpensF.last (Opens.slice Try.underlying87 (by kernel_rfl) op118)))
def G57 (x : S57) : Prop := I64 x.f0 ∧ (True ∧ (I64 x.f2 ∧ (All I64 x.f3 ∧ (All I64 x.f4 ∧ All G89 x.f5))))
theorem op57 : Opens Try.prog k57 57 G57 := Opens.struct (fun x : S57 => (x.f0, x.f1, x.f2, x.f3, x.f4, x.f5)) (fun a => ⟨a.1, a.2.1, a.2.2.1, a.2.2.2.1, a.2.2.2.2.1, a.2.2.2.2.2⟩) (fun _ => rfl) Try.underlying57 (by kernel_rfl) (OpensF.cons (Opens.i64 Try.underlying3 (by kernel_rfl)) rfl (OpensF.cons (Opens.bool Try.underlying4 (by kernel_rfl)) rfl (OpensF.cons (Opens.i64 Try.underlying3 (by kernel_rfl)) rfl (OpensF.cons (Opens.slice Try.underlying34 (by kernel_rfl) (Opens.i64 Try.underlying3 (by kernel_rfl))) rfl (OpensF.cons (Opens.slice Try.underlying34 (by kernel_rfl) (Opens.i64 Try.underlying3 (by kernel_rfl))) rfl (OpensF.last (Opens.slice Try.underlying55 (by kernel_rfl) op89)))))))
def G24 (x : S24) : Prop := All G57 x.f0
theorem op24 : Opens Try.prog k24 24 G24 := Opens.struct (fun x : S24 => x.f0) (fun a => ⟨a⟩) (fun _ => rfl) Try.underlying24 (by kernel_rfl) (OpensF.last (Opens.slice Try.underlying22 (by kernel_rfl) op57))
end Go.Proofs.Ytkimdmdkldlhpaa.PA
