import Derived.Test.YtjpjidgfcljpcaaKCPCx0
import Derived.Test.YtjpjidgfcljpcaaKCZOpen
-- printed by wip/tools
namespace Go.Proofs.Ytjpjidgfcljpcaa.PC
open Go.RowKit Go.Proofs.YtjpjidgfcljpcaaW.PrintWords Go.Proofs.YtjpjidgfcljpcaaW.PrintLast Go.Proofs.YtjpjidgfcljpcaaW.PrintMore
attribute [local go_sem] max2_int min2_int max_two min_two max_three min_three max_four min_four
set_option linter.unusedVariables false
set_option linter.unusedSimpArgs false
def G83 (x : S83) : Prop := I64 x.f0 ∧ I64 x.f1
theorem op83 : Opens Try.prog k83 83 G83 := Opens.struct (fun x : S83 => (x.f0, x.f1)) (fun a => ⟨a.1, a.2⟩) (fun _ => rfl) Try.underlying83 (by kernel_rfl) (OpensF.cons (Opens.i64 Try.underlying3 (by kernel_rfl)) rfl (OpensF.last (Opens.i64 Try.underlying3 (by kernel_rfl))))
def G118 (x : S118) : Prop := I64 x.f0 ∧ (G83 x.f1 ∧ (I64 x.f2 ∧ (G83 x.f3 ∧ (G83 x.f4 ∧ (I64 x.f5 ∧ I64 x.f6)))))
theorem op118 : Opens Try.prog k118 118 G118 := Opens.struct (fun x : S118 => (x.f0, x.f1, x.f2, x.f3, x.f4, x.f5, x.f6)) (fun a => ⟨a.1, a.2.1, a.2.2.1, a.2.2.2.1, a.2.2.2.2.1, a.2.2.2.2.2.1, a.2.2.2.2.2.2⟩) (fun _ => rfl) Try.underlying118 (by kernel_rfl) (OpensF.cons (Opens.i64 Try.underlying3 (by kernel_rfl)) rfl (OpensF.cons op83 rfl (OpensF.cons (Opens.i64 Try.underlying3 (by kernel_rfl)) rfl (OpensF.cons op83 rfl (OpensF.cons op83 rfl (OpensF.cons (Opens.i64 Try.underlying3 (by kernel_rfl)) rfl (OpensF.last (Opens.i64 Try.underlying3 (by kernel_rfl)))))))))
end Go.Proofs.Ytjpjidgfcljpcaa.PC
