/-
Circles that lean on themselves; the laws' looks into lists of circles.
-/
import Derived.Test.YtjpjidgfcljpcaaKRPAx18
import Derived.Test.YtjpjidgfcljpcaaKRPAx26
import Derived.Test.YtjpjidgfcljpcaaKRQ27
namespace Go.Proofs.Ytjpjidgfcljpcaa
open Go.RowKit Go.Proofs.YtjpjidgfcljpcaaW.PrintWords Go.Proofs.YtjpjidgfcljpcaaW.PrintLast Go.Proofs.YtjpjidgfcljpcaaW.PrintMore Go.Proofs.Ytjpjidgfcljpcaa.PA
set_option linter.unusedVariables false
set_option linter.unusedSimpArgs false
namespace Q
def inRound (list : List Cr) (r : Rl) : Bool := decide (r ∈ reachD list r)
def roundRow (list : List Cr) (a : Nat) : List Rl := ((List.range 4).map fun (b : Nat) => (⟨(a : Int), (b : Int)⟩ : Rl)).filter (inRound list)
def roundD (list : List Cr) : List Rl := (List.range 6).flatMap (roundRow list)
theorem roundD_eq (list : List Cr) : roundD list = allR.filter (inRound list) := by
 unfold roundD allR roundRow
 rw [List.filter_flatMap]
theorem roundD_good (list : List Cr) : (roundD list).length ≤ 24 := by
 rw [roundD_eq, ← allR_len]
 exact List.length_filter_le _ _
theorem mem_roundD {list : List Cr} {r : Rl} (h : roleOkB r.f0 r.f1 = true) : r ∈ roundD list ↔ r ∈ reachD list r := by
 rw [roundD_eq, List.mem_filter]
 unfold inRound
 rw [decide_eq_true_eq]
 exact ⟨fun h => h.2, fun h' => ⟨allR_mem h, h'⟩⟩
theorem impl_Round (list : List Cr) (hl : list.length ≤ 1048576) : Ev (fun k => impl_RoundRoles.f k list) (roundD list) := by
 unfold impl_RoundRoles.f roundD
 have key := Ev.up 6 (fun i (s : List Rl) k => impl_RoundRoles.l0 k list s i) (fun i s => s ++ ((List.range 6).drop i).flatMap (roundRow list)) (fun i s => s.length ≤ 4 * i) ?_ ?_ 0 [] (Nat.zero_le _) (by simp)
 ·exact key
 ·intro i s hi hs ih
  have hi' : ((i : Nat) : Int) < 6 := by omega
  refine Ev.succ ?_
  simp only [impl_RoundRoles.l0, hi', ↓reduceIte]
  rw [List.drop_eq_getElem_cons (by simpa using hi), List.flatMap_cons, List.getElem_range, ← List.append_assoc]
  have key2 := Ev.up 4 (fun j (t : List Rl) k => impl_RoundRoles.l1 k list t i i j) (fun j t => t ++ (((List.range 4).drop j).map fun (b : Nat) => (⟨(i : Int), (b : Int)⟩ : Rl)).filter (inRound list) ++ ((List.range 6).drop (i + 1)).flatMap (roundRow list)) (fun j t => t.length ≤ 4 * i + j) ?_ ?_ 0 s (Nat.zero_le _) (by omega)
  ·exact key2
  ·intro j t hj ht ih2
   have hj' : ((j : Nat) : Int) < 4 := by omega
   refine Ev.succ ?_
   simp only [impl_RoundRoles.l1, hj', ↓reduceIte, up_ (show j < 4611686018427387904 by omega), show t.length < 8796093022208 by omega]
   refine Ev.bind (impl_Reach list hl _ _) ?_
   have hg := (reachD_good list ⟨(i : Int), (j : Int)⟩).len
   refine Ev.bind (containsRole _ _ _ (by omega)) ?_
   rw [any_isRole, List.drop_eq_getElem_cons (by simpa using hj), List.map_cons, List.getElem_range, List.filter_cons]
   by_cases h : (⟨(i : Int), (j : Int)⟩ : Rl) ∈ reachD list ⟨(i : Int), (j : Int)⟩
   ·have e : inRound list ⟨(i : Int), (j : Int)⟩ = true := decide_eq_true h
    simp only [h, e, decide_true, ↓reduceIte]
    have h2 := ih2 (t ++ [⟨(i : Int), (j : Int)⟩]) (by simp; omega)
    rw [List.append_assoc t, List.singleton_append] at h2
    exact h2
   ·have e : inRound list ⟨(i : Int), (j : Int)⟩ = false := decide_eq_false h
    simp only [h, e, decide_false, Bool.false_eq_true, ↓reduceIte]
    exact ih2 t (by omega)
  ·intro t ht
   refine Ev.succ ?_
   simp only [impl_RoundRoles.l1, show ¬ (((4 : Nat) : Int) < 4) by omega, ↓reduceIte, up_ (show i < 4611686018427387904 by omega)]
   rw [show ((List.range 4).drop 4) = [] from rfl, List.map_nil, List.filter_nil, List.append_nil]
   exact ih t (by omega)
 ·intro s hs
  refine Ev.succ ?_
  simp only [impl_RoundRoles.l0, show ¬ (((6 : Nat) : Int) < 6) by omega, ↓reduceIte]
  rw [show ((List.range 6).drop 6) = [] from rfl, List.flatMap_nil, List.append_nil]
  exact Ev.now _
theorem spec_Round (list : List Cr) (hl : list.length ≤ 1048576) : Ev (fun k => spec_RoundRoles.f k list) (roundD list) := by
 unfold spec_RoundRoles.f roundD
 have key := Ev.up 6 (fun i (s : List Rl) k => spec_RoundRoles.l0 k list s i) (fun i s => s ++ ((List.range 6).drop i).flatMap (roundRow list)) (fun i s => s.length ≤ 4 * i) ?_ ?_ 0 [] (Nat.zero_le _) (by simp)
 ·exact key
 ·intro i s hi hs ih
  have hi' : ((i : Nat) : Int) < 6 := by omega
  refine Ev.succ ?_
  simp only [spec_RoundRoles.l0, hi', ↓reduceIte]
  rw [List.drop_eq_getElem_cons (by simpa using hi), List.flatMap_cons, List.getElem_range, ← List.append_assoc]
  have key2 := Ev.up 4 (fun j (t : List Rl) k => spec_RoundRoles.l1 k list t i j) (fun j t => t ++ (((List.range 4).drop j).map fun (b : Nat) => (⟨(i : Int), (b : Int)⟩ : Rl)).filter (inRound list) ++ ((List.range 6).drop (i + 1)).flatMap (roundRow list)) (fun j t => t.length ≤ 4 * i + j) ?_ ?_ 0 s (Nat.zero_le _) (by omega)
  ·exact key2
  ·intro j t hj ht ih2
   have hj' : ((j : Nat) : Int) < 4 := by omega
   refine Ev.succ ?_
   simp only [spec_RoundRoles.l1, hj', ↓reduceIte, up_ (show j < 4611686018427387904 by omega), show t.length < 8796093022208 by omega]
   refine Ev.bind (spec_Reach list hl _ _) ?_
   have hg := (reachD_good list ⟨(i : Int), (j : Int)⟩).len
   refine Ev.bind (spec_has _ _ _ (by omega)) ?_
   rw [any_isRole, List.drop_eq_getElem_cons (by simpa using hj), List.map_cons, List.getElem_range, List.filter_cons]
   by_cases h : (⟨(i : Int), (j : Int)⟩ : Rl) ∈ reachD list ⟨(i : Int), (j : Int)⟩
   ·have e : inRound list ⟨(i : Int), (j : Int)⟩ = true := decide_eq_true h
    simp only [h, e, decide_true, ↓reduceIte]
    have h2 := ih2 (t ++ [⟨(i : Int), (j : Int)⟩]) (by simp; omega)
    rw [List.append_assoc t, List.singleton_append] at h2
    exact h2
   ·have e : inRound list ⟨(i : Int), (j : Int)⟩ = false := decide_eq_false h
    simp only [h, e, decide_false, Bool.false_eq_true, ↓reduceIte]
    exact ih2 t (by omega)
  ·intro t ht
   refine Ev.succ ?_
   simp only [spec_RoundRoles.l1, show ¬ (((4 : Nat) : Int) < 4) by omega, ↓reduceIte, up_ (show i < 4611686018427387904 by omega)]
   rw [show ((List.range 4).drop 4) = [] from rfl, List.map_nil, List.filter_nil, List.append_nil]
   exact ih t (by omega)
 ·intro s hs
  refine Ev.succ ?_
  simp only [spec_RoundRoles.l0, show ¬ (((6 : Nat) : Int) < 6) by omega, ↓reduceIte]
  rw [show ((List.range 6).drop 6) = [] from rfl, List.flatMap_nil, List.append_nil]
  exact Ev.now _
theorem laws_has (l : List Rl) (a b : Int) (h : l.length ≤ 1048576) : Ev (fun k => laws_hasRole.f k l a b) (decide ((⟨a, b⟩ : Rl) ∈ l)) := by
 unfold laws_hasRole.f
 refine Ev.up0 l.length (fun i k => laws_hasRole.l0 k l i a b) (fun i => decide ((⟨a, b⟩ : Rl) ∈ l.drop i)) ?_ ?_ 0 (Nat.zero_le _)
 ·intro i hi hn
  refine Ev.succ ?_
  simp only [laws_hasRole.l0, nat_lt, nat_0, hi, ↓reduceIte, rd_T49, getD_ _ hi, getDn_ _ hi, up_ (show i < 4611686018427387904 by omega)]
  rw [List.drop_eq_getElem_cons hi]
  by_cases e : l[i] = ⟨a, b⟩
  ·simp only [e, beq_self_eq_true, Bool.and_self, ↓reduceIte, List.mem_cons, true_or, decide_true]
   exact Ev.now _
  ·have e2 : (l[i].f0 == a && l[i].f1 == b) = false := by
    cases q0 : (l[i].f0 == a) <;> cases q1 : (l[i].f1 == b)
    ·rfl
    ·rfl
    ·rfl
    ·exfalso
     rw [beq_iff_eq] at q0 q1
     exact e (by rw [← q0, ← q1])
   have e3 : ¬ (⟨a, b⟩ : Rl) = l[i] := fun h => e h.symm
   simp only [e2, Bool.false_eq_true, ↓reduceIte, List.mem_cons, e3, false_or]
   exact hn
 ·refine Ev.succ ?_
  simp only [laws_hasRole.l0, nat_lt, Nat.lt_irrefl, ↓reduceIte, List.drop_length, List.not_mem_nil, decide_false]
  exact Ev.now _
theorem laws_same (l : List Rl) (h : l.length ≤ 1048576) : Ev (fun k => laws_sameRoles.f k l l) true := by
 unfold laws_sameRoles.f
 simp only [↓reduceIte]
 refine Ev.up0 l.length (fun i k => laws_sameRoles.l0 k l l i) (fun _ => true) ?_ ?_ 0 (Nat.zero_le _)
 ·intro i hi hn
  refine Ev.succ ?_
  simp only [laws_sameRoles.l0, nat_lt, nat_0, hi, ↓reduceIte, beq_self_eq_true, Bool.not_true, Bool.or_self, Bool.false_eq_true, up_ (show i < 4611686018427387904 by omega)]
  exact hn
 ·refine Ev.succ ?_
  simp only [laws_sameRoles.l0, nat_lt, Nat.lt_irrefl, ↓reduceIte]
  exact Ev.now _
end Q
end Go.Proofs.Ytjpjidgfcljpcaa
