/-
The sizes of all facts by the reference; rows of costs as the laws compare, mark and hold them.
-/
import Derived.Test.YtjpjidgfcljpcaaKCPCx17
import Derived.Test.YtjpjidgfcljpcaaKCQ33
namespace Go.Proofs.Ytjpjidgfcljpcaa
open Go.RowKit Go.Proofs.YtjpjidgfcljpcaaW.PrintWords Go.Proofs.YtjpjidgfcljpcaaW.PrintLast Go.Proofs.YtjpjidgfcljpcaaW.PrintMore Go.Proofs.Ytjpjidgfcljpcaa.PC
set_option linter.unusedVariables false
set_option linter.unusedSimpArgs false
namespace Q
abbrev Co := S53
theorem spec_Costs (list : List Cr) (hl : list.length ≤ 1048576) (r : List Int) (hr : r.length = (factsF list).length) (he : Ev (fun k => spec_l19Sizes.f k list (factsF list)) r) : Ev (fun k => spec_CostsOf.f k list) (costL (factsF list) r) := by
 unfold spec_CostsOf.f
 refine Ev.bind (spec_Facts list hl) ?_
 refine Ev.bind he ?_
 have hF := factsF_len list
 generalize factsF list = F at hF hr
 have key := Ev.up F.length (fun i (s : List Co) k => spec_CostsOf.l0 k F r s i) (fun i s => s ++ ((List.range F.length).drop i).map (fun i => (⟨rd_T51 F (i : Nat), rd r (i : Nat)⟩ : Co))) (fun i s => s.length ≤ i) ?_ ?_ 0 [] (Nat.zero_le _) (by simp)
 ·exact key
 ·intro i s hi hs ih
  refine Ev.succ ?_
  simp only [spec_CostsOf.l0, nat_lt, nat_0, hi, hr, ↓reduceIte, up_ (show i < 4611686018427387904 by omega), show s.length < 4398046511104 by omega]
  rw [List.drop_eq_getElem_cons (by simpa using hi), List.map_cons, List.getElem_range]
  have h2 := ih (s ++ [⟨rd_T51 F (i : Nat), rd r (i : Nat)⟩]) (by simp; omega)
  rw [List.append_assoc, List.singleton_append] at h2
  exact h2
 ·intro s hs
  refine Ev.succ ?_
  simp only [spec_CostsOf.l0, nat_lt, Nat.lt_irrefl, ↓reduceIte]
  rw [show (List.range F.length).drop F.length = [] from List.drop_eq_nil_of_le (by simp), List.map_nil, List.append_nil]
  exact Ev.now _
theorem eqCosts (l : List Co) (h : l.length ≤ 1048576) : Ev (fun k => laws_eqCostS.f k l l) true := by
 unfold laws_eqCostS.f
 simp only [↓reduceIte]
 refine Ev.up0 l.length (fun i k => laws_eqCostS.l0 k l l i) (fun _ => true) ?_ ?_ 0 (Nat.zero_le _)
 ·intro i hi hn
  refine Ev.succ ?_
  simp only [laws_eqCostS.l0, nat_lt, nat_0, hi, ↓reduceIte, laws_eqCost.f, laws_eqFact.f, eqRoleR, Option.bind_some, up_ (show i < 4611686018427387904 by omega)]
  exact hn
 ·refine Ev.succ ?_
  simp only [laws_eqCostS.l0, nat_lt, Nat.lt_irrefl, ↓reduceIte]
  exact Ev.now _
def marksK : Nat → Int → List Co
 | 0, _ => []
 | n + 1, k => ⟨⟨⟨k, k + 1⟩, k + 2⟩, k + 3⟩ :: marksK n (k + 4)
theorem markCosts_ (n : Nat) : ∀ (l pre : List Co) (m : Int), l.length = n → pre.length + n ≤ 1048576 → 0 ≤ m → m + 4 * n ≤ 4611686018427387904 →
  Ev (fun k => laws_markCostS.l0 k (pre ++ l) m pre.length) (m + 4 * n, pre ++ marksK n m) := by
 induction n with
 | zero =>
  intro l pre m h1 h2 h3 h4
  obtain rfl := List.length_eq_zero_iff.1 h1
  refine Ev.succ ?_
  simp only [laws_markCostS.l0, List.append_nil, Int.lt_irrefl, ↓reduceIte, marksK]
  simpa using Ev.now (m, pre)
 | succ n ih =>
  intro l pre m h1 h2 h3 h4
  obtain ⟨x, xs, rfl⟩ : ∃ x xs, l = x :: xs := by cases l with | nil => simp at h1 | cons x xs => exact ⟨x, xs, rfl⟩
  refine Ev.succ ?_
  have hi : pre.length < (pre ++ x :: xs).length := by simp
  simp only [laws_markCostS.l0, nat_lt, nat_0, hi, ↓reduceIte, Option.bind_some, rd_T53, Int.toNat_natCast, rdset _ _ hi, setset, up_ (show pre.length < 4611686018427387904 by omega)]
  rw [w64 (n := m + 1) (by omega) (by omega), w64 (n := m + 1 + 1) (by omega) (by omega), w64 (n := m + 1 + 1 + 1) (by omega) (by omega), w64 (n := m + 1 + 1 + 1 + 1) (by omega) (by omega)]
  have e0 : m + 1 + 1 = m + 2 ∧ m + 2 + 1 = m + 3 ∧ m + 3 + 1 = m + 4 := by omega
  rw [e0.1, e0.2.1, e0.2.2]
  have := ih xs (pre ++ [⟨⟨⟨m, m + 1⟩, m + 2⟩, m + 3⟩]) (m + 4) (by simpa using h1) (by simp; omega) (by omega) (by omega)
  have q1 : (pre ++ x :: xs).set pre.length (⟨⟨⟨m, m + 1⟩, m + 2⟩, m + 3⟩ : Co) = (pre ++ [⟨⟨⟨m, m + 1⟩, m + 2⟩, m + 3⟩]) ++ xs := by simp
  rw [q1]
  simp only [List.length_append, List.length_singleton] at this
  have q2 : (m + 4 * ((n + 1 : Nat) : Int), pre ++ marksK (n + 1) m) = (m + 4 + 4 * (n : Int), pre ++ [(⟨⟨⟨m, m + 1⟩, m + 2⟩, m + 3⟩ : Co)] ++ marksK n (m + 4)) := by
   simp [marksK]; omega
  rw [q2]
  exact this
theorem markCosts (l : List Co) (h : l.length ≤ 1048576) : Ev (fun k => laws_markCostS.f k l 1) (1 + 4 * (l.length : Int), marksK l.length 1) := by
 have := markCosts_ l.length l [] 1 rfl (by simpa using h) (by omega) (by omega)
 simpa [laws_markCostS.f] using this
theorem heldCosts_ (n : Nat) : ∀ (pre : List Co) (m : Int), pre.length + n ≤ 1048576 → 0 ≤ m → m + 4 * n ≤ 4611686018427387904 →
  Ev (fun k => laws_heldCostS.l0 k (pre ++ marksK n m) m pre.length) (m + 4 * n) := by
 induction n with
 | zero =>
  intro pre m h2 h3 h4
  refine Ev.succ ?_
  simp only [laws_heldCostS.l0, marksK, List.append_nil, Int.lt_irrefl, ↓reduceIte]
  simpa using Ev.now m
 | succ n ih =>
  intro pre m h2 h3 h4
  refine Ev.succ ?_
  have hi : pre.length < (pre ++ marksK (n + 1) m).length := by simp [marksK]
  have e0 : (pre ++ marksK (n + 1) m).getD pre.length z53 = ⟨⟨⟨m, m + 1⟩, m + 2⟩, m + 3⟩ := by simp [marksK]
  simp only [laws_heldCostS.l0, nat_lt, nat_0, hi, ↓reduceIte, rd_T53, Int.toNat_natCast, e0, up_ (show pre.length < 4611686018427387904 by omega)]
  rw [w64 (n := m + 1) (by omega) (by omega), w64 (n := m + 1 + 1) (by omega) (by omega), w64 (n := m + 1 + 1 + 1) (by omega) (by omega), w64 (n := m + 1 + 1 + 1 + 1) (by omega) (by omega)]
  have q0 : m + 1 + 1 = m + 2 ∧ m + 2 + 1 = m + 3 ∧ m + 3 + 1 = m + 4 := by omega
  rw [q0.1, q0.2.1, q0.2.2]
  simp only [↓reduceIte]
  have := ih (pre ++ [⟨⟨⟨m, m + 1⟩, m + 2⟩, m + 3⟩]) (m + 4) (by simp; omega) (by omega) (by omega)
  simp only [List.length_append, List.length_singleton] at this
  have q2 : m + 4 * ((n + 1 : Nat) : Int) = m + 4 + 4 * (n : Int) := by omega
  have q3 : pre ++ marksK (n + 1) m = pre ++ [(⟨⟨⟨m, m + 1⟩, m + 2⟩, m + 3⟩ : Co)] ++ marksK n (m + 4) := by simp [marksK]
  rw [q2, q3]
  exact this
theorem heldCosts (n : Nat) (h : n ≤ 1048576) : Ev (fun k => laws_heldCostS.f k (marksK n 1) 1) (1 + 4 * (n : Int)) := by
 have := heldCosts_ n [] 1 (by simpa using h) (by omega) (by omega)
 simpa [laws_heldCostS.f] using this
end Q
end Go.Proofs.Ytjpjidgfcljpcaa
