import Derived.Test.YteofimccoadmeaaGreatKWPAx0
import Derived.Test.YteofimccoadmeaaGreatKWZOpen
-- printed by wip/tools
namespace Go.Proofs.YteofimccoadmeaaGreat.PA
open Go.RowKit Go.Proofs.YteofimccoadmeaaGreatW.PrintWords Go.Proofs.YteofimccoadmeaaGreatW.PrintLast Go.Proofs.YteofimccoadmeaaGreatW.PrintMore
attribute [local go_sem] max2_int min2_int max_two min_two max_three min_three max_four min_four
set_option linter.unusedVariables false
set_option linter.unusedSimpArgs false
def G152 (x : S152) : Prop := Short x.f0 ∧ True
theorem op152 : Opens Tryz.prog k152 152 G152 := Opens.struct (fun x : S152 => (x.f0, x.f1)) (fun a => ⟨a.1, a.2⟩) (fun _ => rfl) Tryz.underlying152 (by kernel_rfl) (OpensF.cons (Opens.string Tryz.underlying9 (by kernel_rfl)) rfl (OpensF.last (Opens.bool Tryz.underlying4 (by kernel_rfl))))
def G141 (x : S141) : Prop := I64 x.f0 ∧ All G152 x.f1
theorem op141 : Opens Tryz.prog k141 141 G141 := Opens.struct (fun x : S141 => (x.f0, x.f1)) (fun a => ⟨a.1, a.2⟩) (fun _ => rfl) Tryz.underlying141 (by kernel_rfl) (OpensF.cons (Opens.i64 Tryz.underlying3 (by kernel_rfl)) rfl (OpensF.last (Opens.slice Tryz.underlying139 (by kernel_rfl) op152)))
def G104 (x : S104) : Prop := I64 x.f0 ∧ (True ∧ (I64 x.f2 ∧ (All I64 x.f3 ∧ (All I64 x.f4 ∧ All G141 x.f5))))
theorem op104 : Opens Tryz.prog k104 104 G104 := Opens.struct (fun x : S104 => (x.f0, x.f1, x.f2, x.f3, x.f4, x.f5)) (fun a => ⟨a.1, a.2.1, a.2.2.1, a.2.2.2.1, a.2.2.2.2.1, a.2.2.2.2.2⟩) (fun _ => rfl) Tryz.underlying104 (by kernel_rfl) (OpensF.cons (Opens.i64 Tryz.underlying3 (by kernel_rfl)) rfl (OpensF.cons (Opens.bool Tryz.underlying4 (by kernel_rfl)) rfl (OpensF.cons (Opens.i64 Tryz.underlying3 (by kernel_rfl)) rfl (OpensF.cons (Opens.slice Tryz.underlying25 (by kernel_rfl) (Opens.i64 Tryz.underlying3 (by kernel_rfl))) rfl (OpensF.cons (Opens.slice Tryz.underlying25 (by kernel_rfl) (Opens.i64 Tryz.underlying3 (by kernel_rfl))) rfl (OpensF.last (Opens.slice Tryz.underlying102 (by kernel_rfl) op141)))))))
def G24 (x : S24) : Prop := All G104 x.f0
theorem op24 : Opens Tryz.prog k24 24 G24 := Opens.struct (fun x : S24 => x.f0) (fun a => ⟨a⟩) (fun _ => rfl) Tryz.underlying24 (by kernel_rfl) (OpensF.last (Opens.slice Tryz.underlying22 (by kernel_rfl) op104))
def G86 (x : S86) : Prop := I64 x.f0 ∧ I64 x.f1
theorem op86 : Opens Tryz.prog k86 86 G86 := Opens.struct (fun x : S86 => (x.f0, x.f1)) (fun a => ⟨a.1, a.2⟩) (fun _ => rfl) Tryz.underlying86 (by kernel_rfl) (OpensF.cons (Opens.i64 Tryz.underlying3 (by kernel_rfl)) rfl (OpensF.last (Opens.i64 Tryz.underlying3 (by kernel_rfl))))
def G88 (x : S88) : Prop := I64 x.f0 ∧ (G86 x.f1 ∧ (I64 x.f2 ∧ (G86 x.f3 ∧ (G86 x.f4 ∧ (I64 x.f5 ∧ I64 x.f6)))))
theorem op88 : Opens Tryz.prog k88 88 G88 := Opens.struct (fun x : S88 => (x.f0, x.f1, x.f2, x.f3, x.f4, x.f5, x.f6)) (fun a => ⟨a.1, a.2.1, a.2.2.1, a.2.2.2.1, a.2.2.2.2.1, a.2.2.2.2.2.1, a.2.2.2.2.2.2⟩) (fun _ => rfl) Tryz.underlying88 (by kernel_rfl) (OpensF.cons (Opens.i64 Tryz.underlying3 (by kernel_rfl)) rfl (OpensF.cons op86 rfl (OpensF.cons (Opens.i64 Tryz.underlying3 (by kernel_rfl)) rfl (OpensF.cons op86 rfl (OpensF.cons op86 rfl (OpensF.cons (Opens.i64 Tryz.underlying3 (by kernel_rfl)) rfl (OpensF.last (Opens.i64 Tryz.underlying3 (by kernel_rfl)))))))))
def G92 (x : S92) : Prop := G86 x.f0 ∧ I64 x.f1
theorem op92 : Opens Tryz.prog k92 92 G92 := Opens.struct (fun x : S92 => (x.f0, x.f1)) (fun a => ⟨a.1, a.2⟩) (fun _ => rfl) Tryz.underlying92 (by kernel_rfl) (OpensF.cons op86 rfl (OpensF.last (Opens.i64 Tryz.underlying3 (by kernel_rfl))))
def G129 (x : S129) : Prop := G88 x.f0 ∧ (G92 x.f1 ∧ All I64 x.f2)
theorem op129 : Opens Tryz.prog k129 129 G129 := Opens.struct (fun x : S129 => (x.f0, x.f1, x.f2)) (fun a => ⟨a.1, a.2.1, a.2.2⟩) (fun _ => rfl) Tryz.underlying129 (by kernel_rfl) (OpensF.cons op88 rfl (OpensF.cons op92 rfl (OpensF.last (Opens.slice Tryz.underlying25 (by kernel_rfl) (Opens.i64 Tryz.underlying3 (by kernel_rfl))))))
def G64 (x : S64) : Prop := True ∧ (All G129 x.f1 ∧ (I64 x.f2 ∧ (True ∧ True)))
theorem op64 : Opens Tryz.prog k64 64 G64 := Opens.struct (fun x : S64 => (x.f0, x.f1, x.f2, x.f3, x.f4)) (fun a => ⟨a.1, a.2.1, a.2.2.1, a.2.2.2.1, a.2.2.2.2⟩) (fun _ => rfl) Tryz.underlying64 (by kernel_rfl) (OpensF.cons (Opens.bool Tryz.underlying4 (by kernel_rfl)) rfl (OpensF.cons (Opens.slice Tryz.underlying62 (by kernel_rfl) op129) rfl (OpensF.cons (Opens.i64 Tryz.underlying3 (by kernel_rfl)) rfl (OpensF.cons (Opens.bool Tryz.underlying4 (by kernel_rfl)) rfl (OpensF.last (Opens.bool Tryz.underlying4 (by kernel_rfl)))))))
def G30 (x : S30) : Prop := G24 x.f0 ∧ (I64 x.f1 ∧ (All I64 x.f2 ∧ (All G88 x.f3 ∧ (All G88 x.f4 ∧ (All G64 x.f5 ∧ (All G92 x.f6 ∧ All I64 x.f7))))))
theorem op30 : Opens Tryz.prog k30 30 G30 := Opens.struct (fun x : S30 => (x.f0, x.f1, x.f2, x.f3, x.f4, x.f5, x.f6, x.f7)) (fun a => ⟨a.1, a.2.1, a.2.2.1, a.2.2.2.1, a.2.2.2.2.1, a.2.2.2.2.2.1, a.2.2.2.2.2.2.1, a.2.2.2.2.2.2.2⟩) (fun _ => rfl) Tryz.underlying30 (by kernel_rfl) (OpensF.cons op24 rfl (OpensF.cons (Opens.i64 Tryz.underlying3 (by kernel_rfl)) rfl (OpensF.cons (Opens.slice Tryz.underlying25 (by kernel_rfl) (Opens.i64 Tryz.underlying3 (by kernel_rfl))) rfl (OpensF.cons (Opens.slice Tryz.underlying26 (by kernel_rfl) op88) rfl (OpensF.cons (Opens.slice Tryz.underlying26 (by kernel_rfl) op88) rfl (OpensF.cons (Opens.slice Tryz.underlying27 (by kernel_rfl) op64) rfl (OpensF.cons (Opens.slice Tryz.underlying28 (by kernel_rfl) op92) rfl (OpensF.last (Opens.slice Tryz.underlying25 (by kernel_rfl) (Opens.i64 Tryz.underlying3 (by kernel_rfl)))))))))))
end Go.Proofs.YteofimccoadmeaaGreat.PA
