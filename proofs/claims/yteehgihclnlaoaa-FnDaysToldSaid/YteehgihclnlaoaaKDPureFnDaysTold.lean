/-
The plain law of FnDaysTold: what holds of drawn words day by day is told by the program as by the reference.
-/
import Derived.Test.YteehgihclnlaoaaKDPAx17
import Derived.Test.YteehgihclnlaoaaKDQ39
namespace Go.Proofs.Yteehgihclnlaoaa
open Go.RowKit Go.Proofs.YteehgihclnlaoaaW.PrintWords Go.Proofs.YteehgihclnlaoaaW.PrintLast Go.Proofs.YteehgihclnlaoaaW.PrintMore Go.Proofs.Yteehgihclnlaoaa.PA
set_option linter.unusedVariables false
set_option linter.unusedSimpArgs false
theorem Pure.FnDaysTold : ∀ (x0 : List Int), All U8 x0 → ∃ k, laws_FnDaysTold.f k x0 = some true := by
 intro x0 hg
 refine Q.Ev.get (g := fun k => laws_FnDaysTold.f k x0) ?_
 unfold laws_FnDaysTold.f laws_big.f
 simp only [Option.bind_some]
 by_cases hb : ((x0.length : Int) > 1048576)
 ·simp only [hb, decide_true, ↓reduceIte]
  exact Ev.now _
 ·simp only [hb, decide_false, Bool.false_eq_true, ↓reduceIte]
  obtain ⟨r, a, b, w, d, e1, l1⟩ := Q.draw_Holds x0 (by omega)
  obtain ⟨s, e2, l2⟩ := Q.draw_Ends x0 (by omega)
  obtain ⟨t, n, e3, l3⟩ := Q.draw_Lost x0 (by omega)
  obtain ⟨L, e4, e5⟩ := Q.both_Last r (by omega) a b w
  have f1 := Q.endsD_len s
  have f2 := Q.factsF_len (Q.aliveC n t)
  have f3 := Q.lostD_len t n
  refine Ev.bind e1 ?_
  refine Ev.bind e2 ?_
  refine Ev.bind e3 ?_
  refine Ev.bind (Q.impl_Holds r (by omega) a b w d) ?_
  refine Ev.bind (Q.spec_Holds r (by omega) a b w d) ?_
  simp only [BEq.rfl, ↓reduceIte]
  refine Ev.bind e5 ?_
  refine Ev.bind e4 ?_
  simp only [↓reduceIte]
  refine Ev.bind (Q.impl_Ends s (by omega)) ?_
  refine Ev.bind (Q.spec_Ends s (by omega)) ?_
  refine Ev.bind (Q.same_Ints _ (by omega)) ?_
  simp only [↓reduceIte]
  refine Ev.bind (Q.impl_Still t (by omega) n) ?_
  refine Ev.bind (Q.spec_Still t (by omega) n) ?_
  refine Ev.bind (Q.same_Facts _ (by omega)) ?_
  simp only [↓reduceIte]
  refine Ev.bind (Q.impl_Lost t (by omega) n) ?_
  refine Ev.bind (Q.spec_Lost t (by omega) n) ?_
  refine Ev.bind (Q.same_Facts _ (by omega)) ?_
  exact Ev.now _
end Go.Proofs.Yteehgihclnlaoaa
