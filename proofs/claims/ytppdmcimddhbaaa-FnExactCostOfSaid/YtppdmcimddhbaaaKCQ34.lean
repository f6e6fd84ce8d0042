/-
The size of one fact, by both.
-/
import Derived.Test.YtppdmcimddhbaaaKCPGx14
import Derived.Test.YtppdmcimddhbaaaKCQ33
namespace Go.Proofs.Ytppdmcimddhbaaa
open Go.RowKit Go.Proofs.YtppdmcimddhbaaaW.PrintWords Go.Proofs.YtppdmcimddhbaaaW.PrintLast Go.Proofs.YtppdmcimddhbaaaW.PrintMore Go.Proofs.Ytppdmcimddhbaaa.PG
set_option linter.unusedVariables false
set_option linter.unusedSimpArgs false
namespace Q
def costAt (F : List Fc) (r : List Int) (q : Rl) (w : Int) : Int := if atF F q w < 0 then 0 else rd r (atF F q w)
theorem spec_cost1 (list : List Cr) (hl : list.length ≤ 1048576) (r : List Int) (hr : r.length = (factsF list).length) (he : Ev (fun k => spec_l19Sizes.f k list (factsF list)) r) (a b w : Int) : Ev (fun k => spec_CostOf.f k list a b w) (costAt (factsF list) r ⟨a, b⟩ w) := by
 have hF := factsF_len list
 unfold spec_CostOf.f
 refine Ev.bind (spec_Facts list hl) ?_
 refine Ev.bind (spec_at (factsF list) a b w (by omega)) ?_
 have hat : idxF (isFc a b w) (factsF list) 0 = atF (factsF list) ⟨a, b⟩ w := rfl
 rw [hat]
 unfold costAt
 have h2 := atF_two (factsF list) ⟨a, b⟩ w
 generalize atF (factsF list) ⟨a, b⟩ w = p at h2
 by_cases h : p < 0
 ·simp only [h, ↓reduceIte]
  exact Ev.now _
 ·simp only [h, ↓reduceIte]
  refine Ev.bind he ?_
  simp only [show 0 ≤ p by omega, show p < (r.length : Int) by omega, ↓reduceIte]
  exact Ev.now _
theorem impl_cost1 (list : List Cr) (hl : list.length ≤ 1048576) (r : List Int) (hr : r.length = (factsF list).length) (he : Ev (fun k => impl_costs.f k list (factsF list)) r) (a b w : Int) : Ev (fun k => impl_CostOf.f k list a b w) (costAt (factsF list) r ⟨a, b⟩ w) := by
 have hF := factsF_len list
 have hnd := factsF_nodup list
 unfold impl_CostOf.f
 refine Ev.bind (impl_Costs list hl r hr he) ?_
 have hCl := costL_len (factsF list) r
 have hC : ∀ (i : Nat) (h : i < (costL (factsF list) r).length), (costL (factsF list) r)[i] = ⟨rd_T29 (factsF list) (i : Nat), rd r (i : Nat)⟩ := by
  intro i h
  simp [costL]
 generalize factsF list = F at hF hnd hr hCl hC
 generalize costL F r = C at hCl hC
 have key : ∀ (d i : Nat), C.length - i = d → i ≤ C.length → (∀ j : Nat, j < i → rd_T29 F (j : Int) ≠ ⟨⟨a, b⟩, w⟩) → Ev (fun k => impl_CostOf.l0 k w C C.length i a b) (costAt F r ⟨a, b⟩ w) := by
  intro d
  induction d with
  | zero =>
   intro i hd hi hno
   refine Ev.succ ?_
   simp only [impl_CostOf.l0, nat_lt, show ¬ i < C.length by omega, ↓reduceIte]
   unfold costAt
   rcases atF_pos F ⟨a, b⟩ w with ⟨h1, _⟩ | ⟨h1, h2⟩
   ·rw [h1, if_pos (by omega)]
    exact Ev.now _
   ·obtain ⟨p, hp⟩ := Int.eq_ofNat_of_zero_le h1.1
    rw [hp] at h1 h2
    exact absurd h2 (hno p (by omega))
  | succ d ih =>
   intro i hd hi hno
   have hiC : i < C.length := by omega
   have hn := ih (i + 1) (by omega) (by omega)
   refine Ev.succ ?_
   simp only [impl_CostOf.l0, nat_lt, nat_0, hiC, ↓reduceIte, rd_T142, getD_ _ hiC, getDn_ _ hiC, hC i hiC, up_ (show i < 4611686018427387904 by omega)]
   have hb : ((((rd_T29 F (i : Int)).f0.f0 == a && (rd_T29 F (i : Int)).f0.f1 == b) && (rd_T29 F (i : Int)).f1 == w) = true) ↔ rd_T29 F (i : Int) = ⟨⟨a, b⟩, w⟩ := by
    obtain ⟨⟨p, q⟩, z⟩ := rd_T29 F (i : Int)
    simp [and_assoc]
   by_cases h : rd_T29 F (i : Int) = ⟨⟨a, b⟩, w⟩
   ·have hb1 := hb.2 h
    simp only [hb1, ↓reduceIte]
    have e := atF_at hnd (i := (i : Int)) ⟨by omega, by omega⟩ h
    unfold costAt
    rw [e, if_neg (by omega)]
    exact Ev.now _
   ·have hb0 := Bool.eq_false_iff.2 (fun h' => h (hb.1 h'))
    simp only [hb0, Bool.false_eq_true, ↓reduceIte]
    refine hn (fun j hj => ?_)
    by_cases e : j = i
    ·subst e; exact h
    ·exact hno j (by omega)
 exact key _ 0 rfl (by omega) (fun j hj => by omega)
end Q
end Go.Proofs.Ytppdmcimddhbaaa
