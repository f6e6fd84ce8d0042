/-
The plain law of FnLeans: the words that a circle needs tell all who are of it; what it leans on is reached; what is critical for a fact stands in its proof, and without it the fact falls.
-/
import Derived.Test.YtcbhmcpdnokbiaaKLQ45
namespace Go.Proofs.Ytcbhmcpdnokbiaa
open Go.RowKit Go.Proofs.YtcbhmcpdnokbiaaW.PrintWords Go.Proofs.YtcbhmcpdnokbiaaW.PrintLast Go.Proofs.YtcbhmcpdnokbiaaW.PrintMore Go.Proofs.Ytcbhmcpdnokbiaa.PA
set_option linter.unusedVariables false
set_option linter.unusedSimpArgs false
namespace Q
theorem same_Ints (l : List Int) (h : l.length ≤ 1048576) : Ev (fun k => laws_sameInts.f k l l) true := by
 unfold laws_sameInts.f
 simp only [↓reduceIte]
 refine Ev.up0 l.length (fun i k => laws_sameInts.l0 k l l i) (fun _ => true) ?_ ?_ 0 (Nat.zero_le _)
 ·intro i hi hn
  refine Ev.succ ?_
  simp only [laws_sameInts.l0, nat_lt, nat_0, hi, ↓reduceIte, up_ (show i < 4611686018427387904 by omega)]
  exact hn
 ·refine Ev.succ ?_
  simp only [laws_sameInts.l0, nat_lt, Nat.lt_irrefl, ↓reduceIte]
  exact Ev.now _
end Q
end Go.Proofs.Ytcbhmcpdnokbiaa

namespace Go.Proofs.Ytcbhmcpdnokbiaa
open Go.RowKit Go.Proofs.YtcbhmcpdnokbiaaW.PrintWords Go.Proofs.YtcbhmcpdnokbiaaW.PrintLast Go.Proofs.YtcbhmcpdnokbiaaW.PrintMore Go.Proofs.Ytcbhmcpdnokbiaa.PA
set_option linter.unusedVariables false
set_option linter.unusedSimpArgs false
theorem Pure.FnLeans : ∀ (x0 : List Int), All U8 x0 → ∃ k, laws_FnLeans.f k x0 = some true := by
 intro x0 hg
 refine Q.Ev.get (g := fun k => laws_FnLeans.f k x0) ?_
 unfold laws_FnLeans.f laws_big.f
 simp only [Option.bind_some]
 by_cases hb : ((x0.length : Int) > 1048576)
 ·simp only [hb, decide_true, ↓reduceIte]
  exact Ev.now _
 ·simp only [hb, decide_false, Bool.false_eq_true, ↓reduceIte]
  obtain ⟨list, e1, l1⟩ := Q.draw_Words x0 (by omega)
  obtain ⟨l, f, ok, e2, l2, f1, f2⟩ := Q.draw_Fact x0 (by omega)
  obtain ⟨p, e3, l3, _⟩ := Q.draw_Places x0 (by omega)
  refine Ev.bind e1 ?_
  refine Ev.bind e2 ?_
  refine Ev.bind e3 ?_
  obtain ⟨r0, hr0⟩ : ∃ r0, r0 = Int.tmod (rd p 0) 3 := ⟨_, rfl⟩
  obtain ⟨r1, hr1⟩ : ∃ r1, r1 = Int.tmod (rd p 1) 2 := ⟨_, rfl⟩
  simp only [show (0 : Int) < (p.length : Int) by omega, show (1 : Int) < (p.length : Int) by omega, ↓reduceIte, ← hr0, ← hr1]
  have hnl : (Q.neededD list ⟨r0, r1⟩).length ≤ list.length := List.length_filter_le _ _
  refine Ev.bind (Q.impl_Needed list (by omega) r0 r1) ?_
  refine Ev.bind (Q.spec_Members _ (by omega) r0 r1) ?_
  refine Ev.bind (Q.spec_Members list (by omega) r0 r1) ?_
  rw [Q.members_need]
  refine Ev.bind (Q.same_Ints _ (Nat.le_trans (Q.memS_len _ _) (by omega))) ?_
  simp only [↓reduceIte, show ¬ (((Q.neededD list ⟨r0, r1⟩).length : Int) > (list.length : Int)) by omega, decide_false]
  refine Q.Ev.succ ?_
  simp only [laws_FnLeans.j0, Bool.false_eq_true, ↓reduceIte]
  refine Ev.bind (Q.impl_Reach list (by omega) r0 r1) ?_
  refine Ev.bind (Q.impl_Leans list (by omega) r0 r1) ?_
  have h1 := (Q.leansD_good list ⟨r0, r1⟩).len
  have h2 := (Q.reachD_good list ⟨r0, r1⟩).len
  refine Q.law_l0 l ok _ _ (by omega) (by omega) (fun x hx => (Q.reachD_closed list ⟨r0, r1⟩).2.1 x (Q.leansD_mem.1 hx)) _ _ _ r0 r1 true ?_ _ 0 rfl (Nat.zero_le _)
  refine Q.Ev.succ ?_
  simp only [laws_FnLeans.l0, Int.lt_irrefl, ↓reduceIte]
  cases ok with
  | true =>
   simp only [↓reduceIte]
   have hf := f1 rfl
   obtain ⟨out, g1, g2, g3, g4⟩ := Q.l7_Proof l (by omega) hf
   obtain ⟨u, u1, u2, u3⟩ := Q.l7_Creds out (by omega)
   refine Ev.bind g1 ?_
   refine Ev.bind u3 ?_
   refine Ev.bind (Q.impl_Crit l (by omega) _ _ _) ?_
   have hne : 1 ≤ l.length := by
    obtain ⟨c, hc, _⟩ := (Q.mem_factsF.1 hf).some
    exact List.length_pos_of_mem hc
   refine Q.law_l1 l u (by omega) hne (by omega) _ _ _ _ (Nat.le_trans (Q.critL_len _ _ _) (by omega)) ?_ _ 0 rfl (Nat.zero_le _)
   intro h hh
   obtain ⟨q, rfl, hq, hc⟩ := Q.mem_critL hh
   refine ⟨q, hq, rfl, hc, (u1 _).2 (Q.crit_used g2 g3 hq hc)⟩
  | false =>
   simp only [Bool.false_eq_true, ↓reduceIte]
   refine Ev.bind (Q.impl_Crit l (by omega) r0 r1 0) ?_
   have h3 : Q.critL l ⟨r0, r1⟩ 0 = [] := by
    unfold Q.critL Q.memF
    rw [f2 rfl]
    simp
   rw [h3]
   exact Ev.now _
end Go.Proofs.Ytcbhmcpdnokbiaa
