/-
The plain law of FnPoliciesTold: what policies tell is told by the program as by the reference.
-/
import Derived.Test.YtnoklfpnmopkpaaKPPEx24
import Derived.Test.YtnoklfpnmopkpaaKPQ41
namespace Go.Proofs.Ytnoklfpnmopkpaa
open Go.RowKit Go.Proofs.YtnoklfpnmopkpaaW.PrintWords Go.Proofs.YtnoklfpnmopkpaaW.PrintLast Go.Proofs.YtnoklfpnmopkpaaW.PrintMore Go.Proofs.Ytnoklfpnmopkpaa.PE
set_option linter.unusedVariables false
set_option linter.unusedSimpArgs false
theorem Pure.FnPoliciesTold : ∀ (x0 : List Int), All U8 x0 → ∃ k, laws_FnPoliciesTold.f k x0 = some true := by
 intro x0 hg
 refine Q.Ev.get (g := fun k => laws_FnPoliciesTold.f k x0) ?_
 unfold laws_FnPoliciesTold.f laws_big.f
 simp only [Option.bind_some]
 by_cases hb : ((x0.length : Int) > 1048576)
 ·simp only [hb, decide_true, ↓reduceIte]
  exact Ev.now _
 ·simp only [hb, decide_false, Bool.false_eq_true, ↓reduceIte]
  obtain ⟨r, p, w, e1, l1, m1⟩ := Q.draw_Dec x0 (by omega)
  obtain ⟨a, e2, l2⟩ := Q.draw_Pr x0 (by omega)
  obtain ⟨b, e3, l3⟩ := Q.draw_Ri x0 (by omega)
  obtain ⟨c, e4, l4⟩ := Q.draw_Pt x0 (by omega)
  obtain ⟨t, e5, l5⟩ := Q.draw_Re x0 (by omega)
  refine Ev.bind e1 ?_
  refine Ev.bind e2 ?_
  refine Ev.bind e3 ?_
  refine Ev.bind e4 ?_
  refine Ev.bind e5 ?_
  refine Ev.bind (Q.impl_ReadPolicy t l5) ?_
  refine Ev.bind (Q.spec_ReadPolicy t l5) ?_
  refine Ev.bind (Q.impl_Dec r (by omega) p (by omega) w) ?_
  refine Ev.bind (Q.spec_Dec r (by omega) p (by omega) w) ?_
  simp only [BEq.rfl, ↓reduceIte]
  refine Ev.bind (Q.impl_PolicyOk p (by omega)) ?_
  refine Ev.bind (Q.spec_PolicyOk p (by omega)) ?_
  simp only [BEq.rfl, ↓reduceIte]
  refine Ev.bind (Q.impl_PolicyRoles a (by omega)) ?_
  refine Ev.bind (Q.spec_PolicyRoles a (by omega)) ?_
  refine Ev.bind (Q.same_Roles _ (Nat.le_trans (Q.policyRolesB_len a) (by omega))) ?_
  simp only [↓reduceIte]
  refine Ev.bind (Q.impl_Ris b (by omega)) ?_
  refine Ev.bind (Q.spec_Ris b (by omega)) ?_
  simp only [BEq.rfl, ↓reduceIte]
  refine Ev.bind (Q.impl_PolicyText c (by omega)) ?_
  refine Ev.bind (Q.spec_PolicyText c (by omega)) ?_
  simp only [BEq.rfl, ↓reduceIte]
  refine Ev.bind (Q.same_ _ (Nat.le_trans (Q.readPolicyB_len t) (by omega))) ?_
  exact Ev.now _
end Go.Proofs.Ytnoklfpnmopkpaa
