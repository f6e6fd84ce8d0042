/-
FnExactSoundWorld: the law's plain answer is always true.
-/
import Derived.Test.YteofimccoadmeaaGreatKWPAx22
import Derived.Test.YteofimccoadmeaaGreatKWQ70
namespace Go.Proofs.YteofimccoadmeaaGreat
open Go.RowKit Go.Proofs.YteofimccoadmeaaGreatW.PrintWords Go.Proofs.YteofimccoadmeaaGreatW.PrintLast Go.Proofs.YteofimccoadmeaaGreatW.PrintMore Go.Proofs.YteofimccoadmeaaGreat.PA
set_option linter.unusedVariables false
set_option linter.unusedSimpArgs false
theorem Pure.FnExactSoundWorld : ∀ (x0 : S30), G30 x0 → ∃ k, laws_FnExactSoundWorld.f k x0.f0.f0 x0.f1 x0.f2 x0.f3 x0.f4 x0.f5 x0.f6 x0.f7 = some true := by
 intro x0 hg
 refine Q.Ev.get (g := fun k => laws_FnExactSoundWorld.f k x0.f0.f0 x0.f1 x0.f2 x0.f3 x0.f4 x0.f5 x0.f6 x0.f7) ?_
 unfold laws_FnExactSoundWorld.f
 refine Ev.bind (Q.zWorld x0 hg 1048576 (by omega) (by omega)) ?_
 by_cases h : ((Q.mWorld x0 : Nat) : Int) ≤ 1048576
 ·have hw := Q.okWorld (x := x0) (by omega)
  have hs : (x0.f3.map Q.toC).length ≤ 1048576 := by rw [List.length_map]; exact hw.f3
  have h2 : ¬ ((1048576 : Int) - ((Q.mWorld x0 : Nat) : Int) < 0) := by omega
  simp only [h, h2, ↓reduceIte]
  refine Ev.bind (Q.cWorld x0 hw) ?_
  refine Ev.bind (Q.spec_SW _ _ _ (x0.f3.map Q.toC) _ _ _ _ (Q.okToP hw.ring) hs (Q.okToA hw.f5)) ?_
  refine Ev.bind (Q.cWorld x0 hw) ?_
  refine Ev.bind (Q.impl_SW _ _ _ (x0.f3.map Q.toC) _ _ _ _ (Q.okToP hw.ring) hs (Q.okToA hw.f5)) ?_
  simp only [bne_self_eq_false, Bool.false_eq_true, ↓reduceIte]
  refine Ev.bind (Q.cWorld x0 hw) ?_
  exact Q.Ev.tt (Q.qWorld x0 hw) (Ev.now _)
 ·simp only [h, ↓reduceIte, show ((-1 : Int) < 0) by omega]
  exact Ev.now _
end Go.Proofs.YteofimccoadmeaaGreat
