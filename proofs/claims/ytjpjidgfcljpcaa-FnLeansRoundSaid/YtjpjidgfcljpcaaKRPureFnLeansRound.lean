/-
The plain law of FnLeansRound: circles that lean on themselves are told, and no others.
-/
import Derived.Test.YtjpjidgfcljpcaaKRPAx27
import Derived.Test.YtjpjidgfcljpcaaKRQ21
namespace Go.Proofs.Ytjpjidgfcljpcaa
open Go.RowKit Go.Proofs.YtjpjidgfcljpcaaW.PrintWords Go.Proofs.YtjpjidgfcljpcaaW.PrintLast Go.Proofs.YtjpjidgfcljpcaaW.PrintMore Go.Proofs.Ytjpjidgfcljpcaa.PA
set_option linter.unusedVariables false
set_option linter.unusedSimpArgs false
theorem Pure.FnLeansRound : ∀ (x0 : List Int), All U8 x0 → ∃ k, laws_FnLeansRound.f k x0 = some true := by
 intro x0 hg
 refine Q.Ev.get (g := fun k => laws_FnLeansRound.f k x0) ?_
 unfold laws_FnLeansRound.f laws_big.f
 simp only [Option.bind_some]
 by_cases hb : ((x0.length : Int) > 1048576)
 ·simp only [hb, decide_true, ↓reduceIte]
  exact Ev.now _
 ·simp only [hb, decide_false, Bool.false_eq_true, ↓reduceIte]
  obtain ⟨list, e1, l1⟩ := Q.draw_Words x0 (by omega)
  refine Ev.bind e1 ?_
  refine Ev.bind (Q.impl_Round list (by omega)) ?_
  have hrl := Q.roundD_good list
  refine Q.Ev.up0 24 (fun i k => laws_FnLeansRound.l0 k list (Q.roundD list) i) (fun _ => true) ?_ ?_ 0 (by omega)
  ·intro i hi hn
   have ed : wrap64 (Int.tdiv (i : Int) 4) = ((i / 4 : Nat) : Int) := by
    rw [Int.tdiv_eq_ediv_of_nonneg (by omega), Q.w64 (by omega) (by omega)]
    omega
   have em : Int.tmod (i : Int) 4 = ((i % 4 : Nat) : Int) := by
    rw [Int.tmod_eq_emod_of_nonneg (by omega)]
    omega
   refine Q.Ev.succ ?_
   simp only [laws_FnLeansRound.l0, show ((i : Nat) : Int) < 24 by omega, ↓reduceIte, ed, em]
   refine Ev.bind (Q.impl_Reach list (by omega) _ _) ?_
   obtain ⟨hgd, _, hcl⟩ := Q.reachD_closed list ⟨((i / 4 : Nat) : Int), ((i % 4 : Nat) : Int)⟩
   have hlen := hgd.len
   refine Ev.bind (Q.laws_has _ _ _ (by omega)) ?_
   refine Ev.bind (Q.laws_has _ _ _ (by omega)) ?_
   have e : decide ((⟨((i / 4 : Nat) : Int), ((i % 4 : Nat) : Int)⟩ : Q.Rl) ∈ Q.roundD list) = decide ((⟨((i / 4 : Nat) : Int), ((i % 4 : Nat) : Int)⟩ : Q.Rl) ∈ Q.reachD list ⟨((i / 4 : Nat) : Int), ((i % 4 : Nat) : Int)⟩) :=
    decide_eq_decide.2 (Q.mem_roundD (Q.roleOk_iff.2 (by simp only; omega)))
   rw [e]
   simp only [bne_self_eq_false, Bool.false_eq_true, ↓reduceIte]
   generalize Q.reachD list ⟨((i / 4 : Nat) : Int), ((i % 4 : Nat) : Int)⟩ = X at hlen hcl
   refine Q.Ev.up0 X.length (fun m k => laws_FnLeansRound.l1 k list (Q.roundD list) i X m) (fun _ => true) ?_ ?_ 0 (Nat.zero_le _)
   ·intro m hm hn2
    refine Q.Ev.succ ?_
    simp only [laws_FnLeansRound.l1, Q.nat_lt, Q.nat_0, hm, ↓reduceIte, rd_T49, Q.getD_ _ hm, Q.getDn_ _ hm]
    refine Ev.bind (Q.impl_Leans list (by omega) _ _) ?_
    have hcl2 : ∀ y ∈ Q.leansD list ⟨X[m].f0, X[m].f1⟩, y ∈ X := fun y hy => hcl X[m] (List.getElem_mem hm) y (Q.leansD_mem.1 hy)
    have hll := (Q.leansD_good list ⟨X[m].f0, X[m].f1⟩).len
    generalize Q.leansD list ⟨X[m].f0, X[m].f1⟩ = Y at hcl2 hll
    refine Q.Ev.up0 Y.length (fun j k => laws_FnLeansRound.l2 k list (Q.roundD list) i X m Y j) (fun _ => true) ?_ ?_ 0 (Nat.zero_le _)
    ·intro j hj hn3
     refine Q.Ev.succ ?_
     simp only [laws_FnLeansRound.l2, Q.nat_lt, Q.nat_0, hj, ↓reduceIte, rd_T49, Q.getD_ _ hj, Q.getDn_ _ hj, Q.up_ (show j < 4611686018427387904 by omega)]
     refine Ev.bind (Q.laws_has X _ _ (by omega)) ?_
     have hy : (⟨Y[j].f0, Y[j].f1⟩ : Q.Rl) ∈ X := hcl2 Y[j] (List.getElem_mem hj)
     simp only [hy, decide_true, ↓reduceIte]
     exact hn3
    ·refine Q.Ev.succ ?_
     simp only [laws_FnLeansRound.l2, Q.nat_lt, Nat.lt_irrefl, ↓reduceIte, Q.up_ (show m < 4611686018427387904 by omega)]
     exact hn2
   ·refine Q.Ev.succ ?_
    simp only [laws_FnLeansRound.l1, Q.nat_lt, Nat.lt_irrefl, ↓reduceIte, Q.up_ (show i < 4611686018427387904 by omega)]
    exact hn
  ·refine Q.Ev.succ ?_
   simp only [laws_FnLeansRound.l0, show ¬ (((24 : Nat) : Int) < 24) by omega, ↓reduceIte]
   refine Ev.bind (Q.spec_Round list (by omega)) ?_
   refine Ev.bind (Q.laws_same _ (by omega)) ?_
   exact Ev.now _
end Go.Proofs.Ytjpjidgfcljpcaa
