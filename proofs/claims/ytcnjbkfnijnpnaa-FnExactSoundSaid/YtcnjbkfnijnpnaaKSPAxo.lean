import Derived.Test.YtcnjbkfnijnpnaaKSPAx0
import Derived.Test.YtcnjbkfnijnpnaaKSZOpen
-- printed by wip/tools
namespace Go.Proofs.Ytcnjbkfnijnpnaa.PA
open Go.RowKit Go.Proofs.YtcnjbkfnijnpnaaW.PrintWords Go.Proofs.YtcnjbkfnijnpnaaW.PrintLast Go.Proofs.YtcnjbkfnijnpnaaW.PrintMore
attribute [local go_sem] max2_int min2_int max_two min_two max_three min_three max_four min_four
set_option linter.unusedVariables false
set_option linter.unusedSimpArgs false
def G141 (x : S141) : Prop := Short x.f0 ∧ True
theorem op141 : Opens Try.prog k141 141 G141 := Opens.struct (fun x : S141 => (x.f0, x.f1)) (fun a => ⟨a.1, a.2⟩) (fun _ => rfl) Try.underlying141 (by kernel_rfl) (OpensF.cons (Opens.string Try.underlying9 (by kernel_rfl)) rfl (OpensF.last (Opens.bool Try.underlying4 (by kernel_rfl))))
def G130 (x : S130) : Prop := I64 x.f0 ∧ All G141 x.f1
theorem op130 : Opens Try.prog k130 130 G130 := Opens.struct (fun x : S130 => (x.f0, x.f1)) (fun a => ⟨a.1, a.2⟩) (fun _ => rfl) Try.underlying130 (by kernel_rfl) (OpensF.cons (Opens.i64 Try.underlying3 (by kernel_rfl)) rfl (OpensF.last (Opens.slice Try.underlying128 (by kernel_rfl) op141)))
def G101 (x : S101) : Prop := I64 x.f0 ∧ (True ∧ (I64 x.f2 ∧ (All I64 x.f3 ∧ (All I64 x.f4 ∧ All G130 x.f5))))
theorem op101 : Opens Try.prog k101 101 G101 := Opens.struct (fun x : S101 => (x.f0, x.f1, x.f2, x.f3, x.f4, x.f5)) (fun a => ⟨a.1, a.2.1, a.2.2.1, a.2.2.2.1, a.2.2.2.2.1, a.2.2.2.2.2⟩) (fun _ => rfl) Try.underlying101 (by kernel_rfl) (OpensF.cons (Opens.i64 Try.underlying3 (by kernel_rfl)) rfl (OpensF.cons (Opens.bool Try.underlying4 (by kernel_rfl)) rfl (OpensF.cons (Opens.i64 Try.underlying3 (by kernel_rfl)) rfl (OpensF.cons (Opens.slice Try.underlying25 (by kernel_rfl) (Opens.i64 Try.underlying3 (by kernel_rfl))) rfl (OpensF.cons (Opens.slice Try.underlying25 (by kernel_rfl) (Opens.i64 Try.underlying3 (by kernel_rfl))) rfl (OpensF.last (Opens.slice Try.underlying99 (by kernel_rfl) op130)))))))
def G24 (x : S24) : Prop := All G101 x.f0
theorem op24 : Opens Try.prog k24 24 G24 := Opens.struct (fun x : S24 => x.f0) (fun a => ⟨a⟩) (fun _ => rfl) Try.underlying24 (by kernel_rfl) (OpensF.last (Opens.slice Try.underlying22 (by kernel_rfl) op101))
def G85 (x : S85) : Prop := I64 x.f0 ∧ I64 x.f1
theorem op85 : Opens Try.prog k85 85 G85 := Opens.struct (fun x : S85 => (x.f0, x.f1)) (fun a => ⟨a.1, a.2⟩) (fun _ => rfl) Try.underlying85 (by kernel_rfl) (OpensF.cons (Opens.i64 Try.underlying3 (by kernel_rfl)) rfl (OpensF.last (Opens.i64 Try.underlying3 (by kernel_rfl))))
def G87 (x : S87) : Prop := I64 x.f0 ∧ (G85 x.f1 ∧ (I64 x.f2 ∧ (G85 x.f3 ∧ (G85 x.f4 ∧ (I64 x.f5 ∧ I64 x.f6)))))
theorem op87 : Opens Try.prog k87 87 G87 := Opens.struct (fun x : S87 => (x.f0, x.f1, x.f2, x.f3, x.f4, x.f5, x.f6)) (fun a => ⟨a.1, a.2.1, a.2.2.1, a.2.2.2.1, a.2.2.2.2.1, a.2.2.2.2.2.1, a.2.2.2.2.2.2⟩) (fun _ => rfl) Try.underlying87 (by kernel_rfl) (OpensF.cons (Opens.i64 Try.underlying3 (by kernel_rfl)) rfl (OpensF.cons op85 rfl (OpensF.cons (Opens.i64 Try.underlying3 (by kernel_rfl)) rfl (OpensF.cons op85 rfl (OpensF.cons op85 rfl (OpensF.cons (Opens.i64 Try.underlying3 (by kernel_rfl)) rfl (OpensF.last (Opens.i64 Try.underlying3 (by kernel_rfl)))))))))
def G91 (x : S91) : Prop := G85 x.f0 ∧ I64 x.f1
theorem op91 : Opens Try.prog k91 91 G91 := Opens.struct (fun x : S91 => (x.f0, x.f1)) (fun a => ⟨a.1, a.2⟩) (fun _ => rfl) Try.underlying91 (by kernel_rfl) (OpensF.cons op85 rfl (OpensF.last (Opens.i64 Try.underlying3 (by kernel_rfl))))
def G117 (x : S117) : Prop := G87 x.f0 ∧ (G91 x.f1 ∧ All I64 x.f2)
theorem op117 : Opens Try.prog k117 117 G117 := Opens.struct (fun x : S117 => (x.f0, x.f1, x.f2)) (fun a => ⟨a.1, a.2.1, a.2.2⟩) (fun _ => rfl) Try.underlying117 (by kernel_rfl) (OpensF.cons op87 rfl (OpensF.cons op91 rfl (OpensF.last (Opens.slice Try.underlying25 (by kernel_rfl) (Opens.i64 Try.underlying3 (by kernel_rfl))))))
def G78 (x : S78) : Prop := True ∧ (All G117 x.f1 ∧ (I64 x.f2 ∧ (True ∧ True)))
theorem op78 : Opens Try.prog k78 78 G78 := Opens.struct (fun x : S78 => (x.f0, x.f1, x.f2, x.f3, x.f4)) (fun a => ⟨a.1, a.2.1, a.2.2.1, a.2.2.2.1, a.2.2.2.2⟩) (fun _ => rfl) Try.underlying78 (by kernel_rfl) (OpensF.cons (Opens.bool Try.underlying4 (by kernel_rfl)) rfl (OpensF.cons (Opens.slice Try.underlying76 (by kernel_rfl) op117) rfl (OpensF.cons (Opens.i64 Try.underlying3 (by kernel_rfl)) rfl (OpensF.cons (Opens.bool Try.underlying4 (by kernel_rfl)) rfl (OpensF.last (Opens.bool Try.underlying4 (by kernel_rfl)))))))
def G30 (x : S30) : Prop := G24 x.f0 ∧ (I64 x.f1 ∧ (All I64 x.f2 ∧ (All G87 x.f3 ∧ (All G87 x.f4 ∧ (All G78 x.f5 ∧ (All G91 x.f6 ∧ All I64 x.f7))))))
theorem op30 : Opens Try.prog k30 30 G30 := Opens.struct (fun x : S30 => (x.f0, x.f1, x.f2, x.f3, x.f4, x.f5, x.f6, x.f7)) (fun a => ⟨a.1, a.2.1, a.2.2.1, a.2.2.2.1, a.2.2.2.2.1, a.2.2.2.2.2.1, a.2.2.2.2.2.2.1, a.2.2.2.2.2.2.2⟩) (fun _ => rfl) Try.underlying30 (by kernel_rfl) (OpensF.cons op24 rfl (OpensF.cons (Opens.i64 Try.underlying3 (by kernel_rfl)) rfl (OpensF.cons (Opens.slice Try.underlying25 (by kernel_rfl) (Opens.i64 Try.underlying3 (by kernel_rfl))) rfl (OpensF.cons (Opens.slice Try.underlying26 (by kernel_rfl) op87) rfl (OpensF.cons (Opens.slice Try.underlying26 (by kernel_rfl) op87) rfl (OpensF.cons (Opens.slice Try.underlying27 (by kernel_rfl) op78) rfl (OpensF.cons (Opens.slice Try.underlying28 (by kernel_rfl) op91) rfl (OpensF.last (Opens.slice Try.underlying25 (by kernel_rfl) (Opens.i64 Try.underlying3 (by kernel_rfl)))))))))))
end Go.Proofs.Ytcnjbkfnijnpnaa.PA
