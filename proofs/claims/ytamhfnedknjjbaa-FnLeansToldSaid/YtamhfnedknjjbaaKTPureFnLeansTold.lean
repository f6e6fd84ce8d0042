/-
The plain law of FnLeansTold: what leans on what is told by the program as by the reference.
-/
import Derived.Test.YtamhfnedknjjbaaKTPBx20
import Derived.Test.YtamhfnedknjjbaaKTQ40
namespace Go.Proofs.Ytamhfnedknjjbaa
open Go.RowKit Go.Proofs.YtamhfnedknjjbaaW.PrintWords Go.Proofs.YtamhfnedknjjbaaW.PrintLast Go.Proofs.YtamhfnedknjjbaaW.PrintMore Go.Proofs.Ytamhfnedknjjbaa.PB
set_option linter.unusedVariables false
set_option linter.unusedSimpArgs false
theorem Pure.FnLeansTold : ∀ (x0 : List Int), All U8 x0 → ∃ k, laws_FnLeansTold.f k x0 = some true := by
 intro x0 hg
 refine Q.Ev.get (g := fun k => laws_FnLeansTold.f k x0) ?_
 unfold laws_FnLeansTold.f laws_big.f
 simp only [Option.bind_some]
 by_cases hb : ((x0.length : Int) > 1048576)
 ·simp only [hb, decide_true, ↓reduceIte]
  exact Ev.now _
 ·simp only [hb, decide_false, Bool.false_eq_true, ↓reduceIte]
  obtain ⟨r, a, b, e1, l1⟩ := Q.draw_Leans x0 (by omega)
  obtain ⟨s, e2, l2⟩ := Q.draw_Round x0 (by omega)
  obtain ⟨t, i, e3, l3⟩ := Q.draw_Wo x0 (by omega)
  obtain ⟨u, c, d, w, e4, l4⟩ := Q.draw_Crit x0 (by omega)
  have f1 := (Q.leansD_good r ⟨a, b⟩).len
  have f2 := (Q.reachD_good r ⟨a, b⟩).len
  have f3 := Q.roundD_good s
  have f4 : (Q.neededD r ⟨a, b⟩).length ≤ r.length := List.length_filter_le _ _
  have f5 := Q.withoutL_len t i
  have f6 := Q.critL_len u ⟨c, d⟩ w
  refine Ev.bind e1 ?_
  refine Ev.bind e2 ?_
  refine Ev.bind e3 ?_
  refine Ev.bind e4 ?_
  refine Ev.bind (Q.impl_Leans r (by omega) a b) ?_
  refine Ev.bind (Q.spec_Leans r (by omega) a b) ?_
  refine Ev.bind (Q.same_Roles _ (by omega)) ?_
  simp only [↓reduceIte]
  refine Ev.bind (Q.impl_Reach r (by omega) a b) ?_
  refine Ev.bind (Q.spec_Reach r (by omega) a b) ?_
  refine Ev.bind (Q.same_Roles _ (by omega)) ?_
  simp only [↓reduceIte]
  refine Ev.bind (Q.impl_Round s (by omega)) ?_
  refine Ev.bind (Q.spec_Round s (by omega)) ?_
  refine Ev.bind (Q.same_Roles _ (by omega)) ?_
  simp only [↓reduceIte]
  refine Ev.bind (Q.impl_Needed r (by omega) a b) ?_
  refine Ev.bind (Q.spec_Needed r (by omega) a b) ?_
  refine Ev.bind (Q.same_Creds _ (by omega)) ?_
  simp only [↓reduceIte, Q.impl_Wo t i (by omega), Option.bind_some]
  refine Ev.bind (Q.spec_Wo t i (by omega)) ?_
  refine Ev.bind (Q.same_Creds _ (by omega)) ?_
  simp only [↓reduceIte]
  refine Ev.bind (Q.impl_Crit u (by omega) c d w) ?_
  refine Ev.bind (Q.spec_Crit u (by omega) c d w) ?_
  refine Ev.bind (Q.same_Ints _ (by omega)) ?_
  exact Ev.now _
end Go.Proofs.Ytamhfnedknjjbaa
