/-
The plain law of ReadProof: what the program reads is what the reference reads; it shares nothing with what is read before.
-/
import Derived.Test.YteppfdkfikeclaaKRQ48
namespace Go.Proofs.Yteppfdkfikeclaa
open Go.RowKit Go.Proofs.YteppfdkfikeclaaW.PrintWords Go.Proofs.YteppfdkfikeclaaW.PrintLast Go.Proofs.YteppfdkfikeclaaW.PrintMore Go.Proofs.Yteppfdkfikeclaa.PL
set_option linter.unusedVariables false
set_option linter.unusedSimpArgs false
theorem Pure.FnExactReadProof : ∀ (x0 : ByteArray), Short x0 → ∃ k, laws_FnExactReadProof.f k x0 = some true := by
 intro x0 hg
 refine Q.Ev.get (g := fun k => laws_FnExactReadProof.f k x0) ?_
 unfold laws_FnExactReadProof.f
 by_cases h1 : (x0.size : Int) > 1048576
 ·simp only [h1, ↓reduceIte]
  exact Ev.now _
 ·simp only [h1, ↓reduceIte]
  obtain ⟨r, e1, e2, hl, hs⟩ := Q.both_Read x0 (by omega)
  have h4 : ∀ x ∈ r.1, x.f2.length ≤ 1048576 := fun x hx => by have := hs x hx; omega
  have hm : ∀ n ∈ (r.1.map fun s => s.f2.length), n ≤ 2 := by
   intro n hn
   obtain ⟨y, hy, rfl⟩ := List.mem_map.1 hn
   exact hs y hy
  refine Ev.bind e2 ?_
  refine Ev.bind e1 ?_
  refine Ev.bind (Q.eqStepS r.1 (by omega) h4) ?_
  simp only [bne_self_eq_false, ↓reduceIte]
  refine Q.Ev.succ ?_
  simp only [laws_FnExactReadProof.j0, Bool.false_eq_true, ↓reduceIte]
  refine Ev.bind (Q.markSteps r.1 (by omega) hs) ?_
  refine Ev.bind (Q.heldSteps (r.1.map fun s => s.f2.length) (by rw [List.length_map]; omega) hm) ?_
  have hE := Q.endS_ge (r.1.map fun s => s.f2.length) 1
  simp only [show ¬ (Q.endS (r.1.map fun s => s.f2.length) 1 < 0) by omega, ↓reduceIte]
  refine Ev.bind e1 ?_
  refine Ev.bind (Q.eqStepS r.1 (by omega) h4) ?_
  simp only [bne_self_eq_false, ↓reduceIte]
  refine Q.Ev.succ ?_
  simp only [laws_FnExactReadProof.j1, Bool.false_eq_true, ↓reduceIte]
  refine Ev.bind (Q.heldSteps (r.1.map fun s => s.f2.length) (by rw [List.length_map]; omega) hm) ?_
  simp only [show ¬ (Q.endS (r.1.map fun s => s.f2.length) 1 < 0) by omega, ↓reduceIte]
  exact Ev.now _
end Go.Proofs.Yteppfdkfikeclaa
