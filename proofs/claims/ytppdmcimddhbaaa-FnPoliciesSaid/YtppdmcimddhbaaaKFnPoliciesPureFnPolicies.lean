/-
The plain law of FnPolicies.
-/
import Derived.Test.YtppdmcimddhbaaaKFnPoliciesPEx0
import Derived.Test.YtppdmcimddhbaaaKFnPoliciesZOpen
import Derived.Test.YtppdmcimddhbaaaKFnPoliciesPEx14
import Derived.Test.YtppdmcimddhbaaaKFnPoliciesPEx16
import Derived.Test.YtppdmcimddhbaaaKFnPoliciesPEx5
import Derived.Test.YtppdmcimddhbaaaKFnPoliciesQ22
namespace Go.Proofs.Ytppdmcimddhbaaa
open Go.RowKit Go.Proofs.YtppdmcimddhbaaaW.PrintWords Go.Proofs.YtppdmcimddhbaaaW.PrintLast Go.Proofs.YtppdmcimddhbaaaW.PrintMore Go.Proofs.Ytppdmcimddhbaaa.PE
set_option linter.unusedVariables false
set_option linter.unusedSimpArgs false
theorem Pure.FnPolicies : ∀ (x0 : List Int), All U8 x0 → ∃ k, laws_FnPolicies.f k x0 = some true := by
  intro x0 hg
  refine Q.Ev.get (g := fun k => laws_FnPolicies.f k x0) ?_
  unfold laws_FnPolicies.f laws_big.f
  simp only [Option.bind_some]
  by_cases hb : ((x0.length : Int) > 1048576)
  · simp only [hb, decide_true, ↓reduceIte]
    exact Ev.now _
  · simp only [hb, decide_false, Bool.false_eq_true, ↓reduceIte]
    obtain ⟨list, e1, l1⟩ := Q.draw_Words x0 (by omega)
    obtain ⟨c, e2⟩ := Q.draw_Word ([3] ++ x0) (by simp; omega)
    obtain ⟨p, e3, lp, gp⟩ := Q.draw_Policy x0 (by omega) true
    obtain ⟨q, e4, lq, gq⟩ := Q.draw_Policy x0 (by omega) false
    simp only [↓reduceIte] at gp
    simp only [Bool.false_eq_true, ↓reduceIte] at gq
    have h40 : q.length ≤ 40 := by omega
    refine Ev.bind e1 ?_
    simp only [List.nil_append, List.length_nil, Nat.zero_add, show list.length < 1759218604441 by omega, ↓reduceIte, show ([3] : List Int).length + x0.length < 140737488355328 by simp; omega]
    refine Ev.bind e2 ?_
    refine Ev.bind e3 ?_
    refine Ev.bind e4 ?_
    simp only [show q.length < 3518437208883 by omega, List.length_cons, List.length_nil, show q.length + (0 + 1 + 1) < 3518437208883 by omega, ↓reduceIte, Q.down_ (show q.length < 4611686018427387904 by omega)]
    have ht := Q.text_back gq lq.1 h40
    have hsz : (Q.policyTextB q).size ≤ 1048576 := Q.text_size gq lq.1 h40
    refine Ev.bind (Q.impl_PolicyText q (by omega)) ?_
    have hr := Q.impl_ReadPolicy _ hsz
    rw [ht] at hr
    refine Ev.bind hr ?_
    refine Ev.bind (Q.impl_PolicyRoles q (by omega)) ?_
    simp only
    obtain ⟨c', hc'⟩ : ∃ c' : Q.Cr, c' = ⟨c.1, ⟨c.2.1, c.2.2.1⟩, c.2.2.2.1, ⟨c.2.2.2.2.1, c.2.2.2.2.2.1⟩, ⟨c.2.2.2.2.2.2.1, c.2.2.2.2.2.2.2.1⟩, c.2.2.2.2.2.2.2.2.1, c.2.2.2.2.2.2.2.2.2⟩ := ⟨_, rfl⟩
    rw [← hc']
    have key : ∀ (d i : Nat), 6 - i = d → i ≤ 6 → Ev (fun k => laws_FnPolicies.l0 k list (list ++ [c']) (q.length : Int) true (Q.policyRolesB q) i p q (Q.twiceN q) q) true := by
      intro d
      induction d with
      | zero =>
        intro i hd hi
        refine Q.Ev.succ ?_
        simp only [laws_FnPolicies.l0, show ¬ ((i : Int) < 6) by omega, ↓reduceIte]
        have hp := Q.impl_Ris p (by omega)
        rw [Q.rising_3 gp lp.1 (by omega)] at hp
        refine Ev.bind hp ?_
        have h2 := Q.impl_Ris (Q.twiceN q) (by simp [Q.twiceN]; omega)
        rw [Q.rising_twice gq lq.1 lq.2] at h2
        simp only [↓reduceIte]
        refine Ev.bind h2 ?_
        have h3 := Q.impl_PolicyOk (Q.twiceN q) (by simp [Q.twiceN]; omega)
        rw [(Q.twice_good gq lq.1).ok (by simp [Q.twiceN]) (by simp [Q.twiceN]; omega)] at h3
        simp only [Bool.false_eq_true, ↓reduceIte]
        refine Ev.bind h3 ?_
        simp only [↓reduceIte]
        refine Ev.bind (Q.same_ q (by omega)) ?_
        have r1 := Q.roles_one gq lq.1 h40
        have r2 := Q.policyRolesB_len q
        simp only [↓reduceIte, show (((Q.policyRolesB q).length : Int) ≥ 1) by omega, show (((Q.policyRolesB q).length : Int) ≤ (q.length : Int)) by omega, decide_true]
        exact Ev.now _
      | succ d ih =>
        intro i hd hi
        have hn := ih (i + 1) (by omega) (by omega)
        refine Q.Ev.succ ?_
        simp only [laws_FnPolicies.l0, show ((i : Int) < 6) by omega, ↓reduceIte, Q.up_ (show i < 4611686018427387904 by omega)]
        refine Ev.bind (Q.impl_Dec list (by omega) p (by omega) i) ?_
        have rest : Ev (fun k => (impl_Decides.f k list (Q.twiceN q) i).bind fun a => (impl_Decides.f k list q i).bind fun b => if (a != b) = true then some false else laws_FnPolicies.l0 k list (list ++ [c']) (q.length : Int) true (Q.policyRolesB q) ((i + 1 : Nat) : Int) p q (Q.twiceN q) q) true := by
          refine Ev.bind (Q.impl_Dec list (by omega) (Q.twiceN q) (by simp [Q.twiceN]; omega) i) ?_
          rw [Q.decide_twice gq lq.1 lq.2]
          refine Ev.bind (Q.impl_Dec list (by omega) q (by omega) i) ?_
          simp only [bne_self_eq_false, Bool.false_eq_true, ↓reduceIte]
          exact hn
        cases hd1 : Q.decideB list p i
        · simp only [Bool.false_eq_true, ↓reduceIte]
          exact rest
        · simp only [↓reduceIte]
          have hm := Q.impl_Dec (list ++ [c']) (by simp; omega) p (by omega) i
          rw [Q.decide_more gp hd1] at hm
          refine Ev.bind hm ?_
          simp only [↓reduceIte]
          exact rest
    exact key 6 0 rfl (by omega)
end Go.Proofs.Ytppdmcimddhbaaa
