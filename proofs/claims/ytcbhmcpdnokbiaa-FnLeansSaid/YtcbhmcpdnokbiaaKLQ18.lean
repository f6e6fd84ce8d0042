/-
Rows of whole numbers as the laws compare, mark and hold them; the words without which somebody is not of a circle.
-/
import Derived.Test.YtcbhmcpdnokbiaaKLQ27
namespace Go.Proofs.Ytcbhmcpdnokbiaa
open Go.RowKit Go.Proofs.YtcbhmcpdnokbiaaW.PrintWords Go.Proofs.YtcbhmcpdnokbiaaW.PrintLast Go.Proofs.YtcbhmcpdnokbiaaW.PrintMore Go.Proofs.Ytcbhmcpdnokbiaa.PA
set_option linter.unusedVariables false
set_option linter.unusedSimpArgs false
namespace Q
theorem laws_has (l : List Rl) (a b : Int) (h : l.length ≤ 1048576) : Ev (fun k => laws_hasRole.f k l a b) (decide ((⟨a, b⟩ : Rl) ∈ l)) := by
 unfold laws_hasRole.f
 refine Ev.up0 l.length (fun i k => laws_hasRole.l0 k l i a b) (fun i => decide ((⟨a, b⟩ : Rl) ∈ l.drop i)) ?_ ?_ 0 (Nat.zero_le _)
 ·intro i hi hn
  refine Ev.succ ?_
  simp only [laws_hasRole.l0, nat_lt, nat_0, hi, ↓reduceIte, rd_T27, getD_ _ hi, getDn_ _ hi, up_ (show i < 4611686018427387904 by omega)]
  rw [List.drop_eq_getElem_cons hi]
  by_cases e : l[i] = ⟨a, b⟩
  ·simp only [e, beq_self_eq_true, Bool.and_self, ↓reduceIte, List.mem_cons, true_or, decide_true]
   exact Ev.now _
  ·have e2 : (l[i].f0 == a && l[i].f1 == b) = false := by
    cases q0 : (l[i].f0 == a) <;> cases q1 : (l[i].f1 == b)
    ·rfl
    ·rfl
    ·rfl
    ·exfalso
     rw [beq_iff_eq] at q0 q1
     exact e (by rw [← q0, ← q1])
   have e3 : ¬ (⟨a, b⟩ : Rl) = l[i] := fun h => e h.symm
   simp only [e2, Bool.false_eq_true, ↓reduceIte, List.mem_cons, e3, false_or]
   exact hn
 ·refine Ev.succ ?_
  simp only [laws_hasRole.l0, nat_lt, Nat.lt_irrefl, ↓reduceIte, List.drop_length, List.not_mem_nil, decide_false]
  exact Ev.now _
end Q
end Go.Proofs.Ytcbhmcpdnokbiaa

namespace Go.Proofs.Ytcbhmcpdnokbiaa
open Go.RowKit Go.Proofs.YtcbhmcpdnokbiaaW.PrintWords Go.Proofs.YtcbhmcpdnokbiaaW.PrintLast Go.Proofs.YtcbhmcpdnokbiaaW.PrintMore Go.Proofs.Ytcbhmcpdnokbiaa.PA
set_option linter.unusedVariables false
set_option linter.unusedSimpArgs false
namespace Q
def withoutL (l : List Cr) (a : Int) : List Cr := if 0 ≤ a ∧ a < (l.length : Int) then l.eraseIdx a.toNat else l
theorem withoutL_len (l : List Cr) (a : Int) : (withoutL l a).length ≤ l.length := by
 unfold withoutL
 split
 ·exact List.length_eraseIdx_le _ _
 ·exact Nat.le_refl _
theorem impl_Wo (l : List Cr) (a : Int) (h : l.length ≤ 1048576) : impl_Without.f l a = some (withoutL l a) := by
 unfold impl_Without.f withoutL
 rw [if_pos (by omega)]
end Q
end Go.Proofs.Ytcbhmcpdnokbiaa

namespace Go.Proofs.Ytcbhmcpdnokbiaa
open Go.RowKit Go.Proofs.YtcbhmcpdnokbiaaW.PrintWords Go.Proofs.YtcbhmcpdnokbiaaW.PrintLast Go.Proofs.YtcbhmcpdnokbiaaW.PrintMore Go.Proofs.Ytcbhmcpdnokbiaa.PA
set_option linter.unusedVariables false
set_option linter.unusedSimpArgs false
namespace Q
def critAt (l : List Cr) (r : Rl) (w : Int) (i n : Nat) : List Int := ((List.range' i n).filter fun j : Nat => !memF (withoutL l (j : Int)) r w).map fun j : Nat => (j : Int)
def critL (l : List Cr) (r : Rl) (w : Int) : List Int := if memF l r w = true then critAt l r w 0 l.length else []
theorem critL_len (l : List Cr) (r : Rl) (w : Int) : (critL l r w).length ≤ l.length := by
 unfold critL critAt
 split
 ·rw [List.length_map]
  exact Nat.le_trans (List.length_filter_le _ _) (by simp)
 ·simp
theorem crit_step (l : List Cr) (r : Rl) (w : Int) {i : Nat} (hi : i < l.length) : critAt l r w i (l.length - i) = (if memF (withoutL l (i : Int)) r w = true then critAt l r w (i + 1) (l.length - (i + 1)) else (i : Int) :: critAt l r w (i + 1) (l.length - (i + 1))) := by
 unfold critAt
 rw [show l.length - i = (l.length - (i + 1)) + 1 by omega, List.range'_succ]
 cases h : memF (withoutL l (i : Int)) r w
 ·simp [h]
 ·simp [h]
theorem impl_Crit (l : List Cr) (h : l.length ≤ 1048576) (a b w : Int) : Ev (fun k => impl_Critical.f k l a b w) (critL l ⟨a, b⟩ w) := by
 unfold impl_Critical.f critL
 simp only [Option.bind_some]
 refine Ev.bind (impl_Mem l h a b w) ?_
 cases hm : memF l ⟨a, b⟩ w
 ·simp only [Bool.false_eq_true, ↓reduceIte]
  exact Ev.now _
 ·simp only [↓reduceIte]
  have key := Ev.up l.length (fun i (s : List Int) k => impl_Critical.l0 k l w s l.length i a b) (fun i s => s ++ critAt l ⟨a, b⟩ w i (l.length - i)) (fun i s => s.length ≤ i) ?_ ?_ 0 [] (Nat.zero_le _) (by simp)
  ·exact key
  ·intro i s hi hs ih
   refine Ev.succ ?_
   simp only [impl_Critical.l0, nat_lt, hi, ↓reduceIte, up_ (show i < 4611686018427387904 by omega), show s.length < 17592186044416 by omega, impl_Wo l i h, Option.bind_some]
   have := withoutL_len l (i : Int)
   refine Ev.bind (impl_Mem _ (by omega) a b w) ?_
   rw [crit_step l ⟨a, b⟩ w hi]
   cases hq : memF (withoutL l (i : Int)) ⟨a, b⟩ w
   ·simp only [Bool.false_eq_true, ↓reduceIte]
    have h2 := ih (s ++ [(i : Int)]) (by simp; omega)
    rw [List.append_assoc] at h2
    exact h2
   ·simp only [↓reduceIte]
    exact ih s (by omega)
  ·intro s _
   refine Ev.succ ?_
   simp only [impl_Critical.l0, nat_lt, Nat.lt_irrefl, ↓reduceIte, Nat.sub_self]
   simpa [critAt] using Ev.now s
end Q
end Go.Proofs.Ytcbhmcpdnokbiaa
