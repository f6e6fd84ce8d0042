/-
Circles that lean on themselves; the laws' looks into lists of circles.
-/
import Derived.Test.YtamhfnedknjjbaaKTQ27
namespace Go.Proofs.Ytamhfnedknjjbaa
open Go.RowKit Go.Proofs.YtamhfnedknjjbaaW.PrintWords Go.Proofs.YtamhfnedknjjbaaW.PrintLast Go.Proofs.YtamhfnedknjjbaaW.PrintMore Go.Proofs.Ytamhfnedknjjbaa.PB
set_option linter.unusedVariables false
set_option linter.unusedSimpArgs false
namespace Q
def inRound (list : List Cr) (r : Rl) : Bool := decide (r ∈ reachD list r)
def roundRow (list : List Cr) (a : Nat) : List Rl := ((List.range 4).map fun (b : Nat) => (⟨(a : Int), (b : Int)⟩ : Rl)).filter (inRound list)
def roundD (list : List Cr) : List Rl := (List.range 6).flatMap (roundRow list)
theorem roundD_eq (list : List Cr) : roundD list = allR.filter (inRound list) := by
 unfold roundD allR roundRow
 rw [List.filter_flatMap]
theorem roundD_good (list : List Cr) : (roundD list).length ≤ 24 := by
 rw [roundD_eq, ← allR_len]
 exact List.length_filter_le _ _
theorem impl_Round (list : List Cr) (hl : list.length ≤ 1048576) : Ev (fun k => impl_RoundRoles.f k list) (roundD list) := by
 unfold impl_RoundRoles.f roundD
 have key := Ev.up 6 (fun i (s : List Rl) k => impl_RoundRoles.l0 k list s i) (fun i s => s ++ ((List.range 6).drop i).flatMap (roundRow list)) (fun i s => s.length ≤ 4 * i) ?_ ?_ 0 [] (Nat.zero_le _) (by simp)
 ·exact key
 ·intro i s hi hs ih
  have hi' : ((i : Nat) : Int) < 6 := by omega
  refine Ev.succ ?_
  simp only [impl_RoundRoles.l0, hi', ↓reduceIte]
  rw [List.drop_eq_getElem_cons (by simpa using hi), List.flatMap_cons, List.getElem_range, ← List.append_assoc]
  have key2 := Ev.up 4 (fun j (t : List Rl) k => impl_RoundRoles.l1 k list t i i j) (fun j t => t ++ (((List.range 4).drop j).map fun (b : Nat) => (⟨(i : Int), (b : Int)⟩ : Rl)).filter (inRound list) ++ ((List.range 6).drop (i + 1)).flatMap (roundRow list)) (fun j t => t.length ≤ 4 * i + j) ?_ ?_ 0 s (Nat.zero_le _) (by omega)
  ·exact key2
  ·intro j t hj ht ih2
   have hj' : ((j : Nat) : Int) < 4 := by omega
   refine Ev.succ ?_
   simp only [impl_RoundRoles.l1, hj', ↓reduceIte, up_ (show j < 4611686018427387904 by omega), show t.length < 8796093022208 by omega]
   refine Ev.bind (impl_Reach list hl _ _) ?_
   have hg := (reachD_good list ⟨(i : Int), (j : Int)⟩).len
   refine Ev.bind (containsRole _ _ _ (by omega)) ?_
   rw [any_isRole, List.drop_eq_getElem_cons (by simpa using hj), List.map_cons, List.getElem_range, List.filter_cons]
   by_cases h : (⟨(i : Int), (j : Int)⟩ : Rl) ∈ reachD list ⟨(i : Int), (j : Int)⟩
   ·have e : inRound list ⟨(i : Int), (j : Int)⟩ = true := decide_eq_true h
    simp only [h, e, decide_true, ↓reduceIte]
    have h2 := ih2 (t ++ [⟨(i : Int), (j : Int)⟩]) (by simp; omega)
    rw [List.append_assoc t, List.singleton_append] at h2
    exact h2
   ·have e : inRound list ⟨(i : Int), (j : Int)⟩ = false := decide_eq_false h
    simp only [h, e, decide_false, Bool.false_eq_true, ↓reduceIte]
    exact ih2 t (by omega)
  ·intro t ht
   refine Ev.succ ?_
   simp only [impl_RoundRoles.l1, show ¬ (((4 : Nat) : Int) < 4) by omega, ↓reduceIte, up_ (show i < 4611686018427387904 by omega)]
   rw [show ((List.range 4).drop 4) = [] from rfl, List.map_nil, List.filter_nil, List.append_nil]
   exact ih t (by omega)
 ·intro s hs
  refine Ev.succ ?_
  simp only [impl_RoundRoles.l0, show ¬ (((6 : Nat) : Int) < 6) by omega, ↓reduceIte]
  rw [show ((List.range 6).drop 6) = [] from rfl, List.flatMap_nil, List.append_nil]
  exact Ev.now _
theorem spec_Round (list : List Cr) (hl : list.length ≤ 1048576) : Ev (fun k => spec_RoundRoles.f k list) (roundD list) := by
 unfold spec_RoundRoles.f roundD
 have key := Ev.up 6 (fun i (s : List Rl) k => spec_RoundRoles.l0 k list s i) (fun i s => s ++ ((List.range 6).drop i).flatMap (roundRow list)) (fun i s => s.length ≤ 4 * i) ?_ ?_ 0 [] (Nat.zero_le _) (by simp)
 ·exact key
 ·intro i s hi hs ih
  have hi' : ((i : Nat) : Int) < 6 := by omega
  refine Ev.succ ?_
  simp only [spec_RoundRoles.l0, hi', ↓reduceIte]
  rw [List.drop_eq_getElem_cons (by simpa using hi), List.flatMap_cons, List.getElem_range, ← List.append_assoc]
  have key2 := Ev.up 4 (fun j (t : List Rl) k => spec_RoundRoles.l1 k list t i j) (fun j t => t ++ (((List.range 4).drop j).map fun (b : Nat) => (⟨(i : Int), (b : Int)⟩ : Rl)).filter (inRound list) ++ ((List.range 6).drop (i + 1)).flatMap (roundRow list)) (fun j t => t.length ≤ 4 * i + j) ?_ ?_ 0 s (Nat.zero_le _) (by omega)
  ·exact key2
  ·intro j t hj ht ih2
   have hj' : ((j : Nat) : Int) < 4 := by omega
   refine Ev.succ ?_
   simp only [spec_RoundRoles.l1, hj', ↓reduceIte, up_ (show j < 4611686018427387904 by omega), show t.length < 8796093022208 by omega]
   refine Ev.bind (spec_Reach list hl _ _) ?_
   have hg := (reachD_good list ⟨(i : Int), (j : Int)⟩).len
   refine Ev.bind (spec_has _ _ _ (by omega)) ?_
   rw [any_isRole, List.drop_eq_getElem_cons (by simpa using hj), List.map_cons, List.getElem_range, List.filter_cons]
   by_cases h : (⟨(i : Int), (j : Int)⟩ : Rl) ∈ reachD list ⟨(i : Int), (j : Int)⟩
   ·have e : inRound list ⟨(i : Int), (j : Int)⟩ = true := decide_eq_true h
    simp only [h, e, decide_true, ↓reduceIte]
    have h2 := ih2 (t ++ [⟨(i : Int), (j : Int)⟩]) (by simp; omega)
    rw [List.append_assoc t, List.singleton_append] at h2
    exact h2
   ·have e : inRound list ⟨(i : Int), (j : Int)⟩ = false := decide_eq_false h
    simp only [h, e, decide_false, Bool.false_eq_true, ↓reduceIte]
    exact ih2 t (by omega)
  ·intro t ht
   refine Ev.succ ?_
   simp only [spec_RoundRoles.l1, show ¬ (((4 : Nat) : Int) < 4) by omega, ↓reduceIte, up_ (show i < 4611686018427387904 by omega)]
   rw [show ((List.range 4).drop 4) = [] from rfl, List.map_nil, List.filter_nil, List.append_nil]
   exact ih t (by omega)
 ·intro s hs
  refine Ev.succ ?_
  simp only [spec_RoundRoles.l0, show ¬ (((6 : Nat) : Int) < 6) by omega, ↓reduceIte]
  rw [show ((List.range 6).drop 6) = [] from rfl, List.flatMap_nil, List.append_nil]
  exact Ev.now _
end Q
end Go.Proofs.Ytamhfnedknjjbaa
