/-
Circles in lists: looked for, put behind others once, marked and held; the circles of a policy.
-/
import Derived.Test.YtjpjidgfcljpcaaKLPAx13
import Derived.Test.YtjpjidgfcljpcaaKLPAx14
import Derived.Test.YtjpjidgfcljpcaaKLQ2
namespace Go.Proofs.Ytjpjidgfcljpcaa
open Go.RowKit Go.Proofs.YtjpjidgfcljpcaaW.PrintWords Go.Proofs.YtjpjidgfcljpcaaW.PrintLast Go.Proofs.YtjpjidgfcljpcaaW.PrintMore Go.Proofs.Ytjpjidgfcljpcaa.PA
set_option linter.unusedVariables false
set_option linter.unusedSimpArgs false
namespace Q
def idxL {α : Type} (p : α → Bool) : List α → Int → Int
 | [], _ => -1
 | x :: xs, i => if p x = true then i else idxL p xs (i + 1)
theorem idxL_any {α : Type} (p : α → Bool) : ∀ (l : List α) (i : Int), 0 ≤ i → (decide (idxL p l i ≥ 0)) = l.any p := by
 intro l
 induction l with
 | nil => intro i h; simp [idxL]
 | cons x xs ih =>
  intro i h
  unfold idxL
  cases hp : p x
  ·simp [hp, ← ih (i + 1) (by omega)]
  ·simp [hp, h]
def isRole (a b : Int) (x : Role) : Bool := a == x.f0 && b == x.f1
theorem isRole_comm (a b : Int) (x : Role) : (x.f0 == a && x.f1 == b) = isRole a b x := by
 unfold isRole
 rw [beqI, beqI, beqI, beqI]
 simp only [eq_comm]
theorem indexRole (l : List Role) (a b : Int) (h : l.length ≤ 1048576) : Ev (fun k => impl_Role_181.f k l a b) (idxL (isRole a b) l 0) := by
 unfold impl_Role_181.f
 refine Ev.up0 l.length (fun i k => impl_Role_181.l0 k l l.length i a b) (fun i => idxL (isRole a b) (l.drop i) i) ?_ ?_ 0 (Nat.zero_le _)
 ·intro i hi hn
  refine Ev.succ ?_
  simp only [impl_Role_181.l0, nat_lt, nat_0, hi, ↓reduceIte, rd_T49, getD_ _ hi, getDn_ _ hi, up_ (show i < 4611686018427387904 by omega)]
  rw [List.drop_eq_getElem_cons hi]
  unfold idxL
  unfold isRole at hn ⊢
  cases hb : (a == l[i].f0 && b == l[i].f1)
  ·simp only [Bool.false_eq_true, ↓reduceIte]
   exact hn
  ·simp only [↓reduceIte]
   exact Ev.now _
 ·refine Ev.succ ?_
  simp only [impl_Role_181.l0, nat_lt, Nat.lt_irrefl, ↓reduceIte, List.drop_length]
  exact Ev.now _
theorem containsRole (l : List Role) (a b : Int) (h : l.length ≤ 1048576) : Ev (fun k => impl_Role_125.f k l a b) (l.any (isRole a b)) := by
 unfold impl_Role_125.f
 refine Ev.bind (indexRole l a b h) ?_
 rw [← idxL_any (isRole a b) l 0 (Int.le_refl _)]
 exact Ev.now _
def addR (l : List Role) (r : Role) : List Role := if l.any (isRole r.f0 r.f1) = true then l else l ++ [r]
theorem spec_has (l : List Role) (a b : Int) (h : l.length ≤ 1048576) : Ev (fun k => spec_l13Done.f k l a b) (l.any (isRole a b)) := by
 unfold spec_l13Done.f
 have key := Ev.up0 l.length (fun i k => spec_l13Done.l0 k l i a b) (fun i => (l.drop i).any (isRole a b)) ?_ ?_ 0 (Nat.zero_le _)
 ·exact key
 ·intro i hi hn
  refine Ev.succ ?_
  simp only [spec_l13Done.l0, nat_lt, nat_0, hi, ↓reduceIte, rd_T49, getD_ _ hi, getDn_ _ hi, up_ (show i < 4611686018427387904 by omega)]
  rw [List.drop_eq_getElem_cons hi, List.any_cons, ← isRole_comm]
  cases hb : (l[i].f0 == a && l[i].f1 == b)
  ·simp only [Bool.false_eq_true, ↓reduceIte, Bool.false_or]
   exact hn
  ·simp only [↓reduceIte, Bool.true_or]
   exact Ev.now _
 ·refine Ev.succ ?_
  simp only [spec_l13Done.l0, nat_lt, Nat.lt_irrefl, ↓reduceIte, List.drop_length]
  exact Ev.now _
theorem spec_add (l : List Role) (a b : Int) (h : l.length ≤ 1048576) : Ev (fun k => spec_l18Add.f k l a b) (addR l ⟨a, b⟩) := by
 unfold spec_l18Add.f addR
 refine Ev.bind (spec_has l a b h) ?_
 cases hb : l.any (isRole a b)
 ·simp only [Bool.false_eq_true, ↓reduceIte, Option.bind_some, List.nil_append, List.length_nil, List.length_singleton, show 0 + l.length < 8796093022208 by omega, show l.length + 1 < 8796093022208 by omega]
  exact Ev.now _
 ·simp only [↓reduceIte]
  exact Ev.now _
theorem rd_set {α : Type} (l : List α) (i : Nat) (h : i < l.length) (x z : α) : (l.set i x).getD i z = x := by simp [h]
theorem set_set {α : Type} (l : List α) (i : Nat) (x y : α) : (l.set i x).set i y = l.set i y := by simp
def marksR : Nat → Int → List Role
 | 0, _ => []
 | n + 1, k => ⟨k, k + 1⟩ :: marksR n (k + 2)
theorem markRoleS_ (n : Nat) : ∀ (l pre : List Role) (m : Int), l.length = n → pre.length + n ≤ 1048576 → 0 ≤ m → m + 2 * n ≤ 4611686018427387904 →
  Ev (fun k => laws_markRoleS.l0 k (pre ++ l) m pre.length) (m + 2 * n, pre ++ marksR n m) := by
 induction n with
 | zero =>
  intro l pre m h1 h2 h3 h4
  obtain rfl := List.length_eq_zero_iff.1 h1
  refine Ev.succ ?_
  simp only [laws_markRoleS.l0, List.append_nil, Int.lt_irrefl, ↓reduceIte, marksR]
  simpa using Ev.now (m, pre)
 | succ n ih =>
  intro l pre m h1 h2 h3 h4
  obtain ⟨x, xs, rfl⟩ : ∃ x xs, l = x :: xs := by cases l with | nil => simp at h1 | cons x xs => exact ⟨x, xs, rfl⟩
  refine Ev.succ ?_
  have hi : pre.length < (pre ++ x :: xs).length := by simp
  simp only [laws_markRoleS.l0, nat_lt, nat_0, hi, ↓reduceIte, Option.bind_some, rd_T49, Int.toNat_natCast, rd_set _ _ hi, set_set, up_ (show pre.length < 4611686018427387904 by omega)]
  rw [w64 (n := m + 1) (by omega) (by omega), w64 (n := m + 1 + 1) (by omega) (by omega)]
  have e1 : (pre ++ x :: xs).set pre.length (⟨m, m + 1⟩ : Role) = (pre ++ [⟨m, m + 1⟩]) ++ xs := by simp
  have := ih xs (pre ++ [⟨m, m + 1⟩]) (m + 2) (by simpa using h1) (by simp; omega) (by omega) (by omega)
  rw [e1, show m + 1 + 1 = m + 2 by omega]
  simp only [List.length_append, List.length_singleton] at this
  have e2 : (m + 2 * ((n + 1 : Nat) : Int), pre ++ marksR (n + 1) m) = (m + 2 + 2 * (n : Int), pre ++ [(⟨m, m + 1⟩ : Role)] ++ marksR n (m + 2)) := by
   simp [marksR]; omega
  rw [e2]
  exact this
theorem heldRoleS_ (n : Nat) : ∀ (pre : List Role) (m : Int), pre.length + n ≤ 1048576 → 0 ≤ m → m + 2 * n ≤ 4611686018427387904 →
  Ev (fun k => laws_heldRoleS.l0 k (pre ++ marksR n m) m pre.length) (m + 2 * n) := by
 induction n with
 | zero =>
  intro pre m h2 h3 h4
  refine Ev.succ ?_
  simp only [laws_heldRoleS.l0, marksR, List.append_nil, Int.lt_irrefl, ↓reduceIte]
  simpa using Ev.now m
 | succ n ih =>
  intro pre m h2 h3 h4
  refine Ev.succ ?_
  have hi : pre.length < (pre ++ marksR (n + 1) m).length := by simp [marksR]
  have e0 : (pre ++ marksR (n + 1) m).getD pre.length z49 = ⟨m, m + 1⟩ := by simp [marksR]
  simp only [laws_heldRoleS.l0, nat_lt, nat_0, hi, ↓reduceIte, rd_T49, Int.toNat_natCast, e0, up_ (show pre.length < 4611686018427387904 by omega)]
  rw [w64 (n := m + 1) (by omega) (by omega), w64 (n := m + 1 + 1) (by omega) (by omega)]
  simp only [↓reduceIte]
  have := ih (pre ++ [⟨m, m + 1⟩]) (m + 2) (by simp; omega) (by omega) (by omega)
  simp only [List.length_append, List.length_singleton] at this
  have e2 : m + 2 * ((n + 1 : Nat) : Int) = m + 2 + 2 * (n : Int) := by omega
  have e3 : pre ++ marksR (n + 1) m = pre ++ [(⟨m, m + 1⟩ : Role)] ++ marksR n (m + 2) := by simp [marksR]
  rw [e2, e3, show m + 1 + 1 = m + 2 by omega]
  exact this
theorem markRoleS (l : List Role) (h : l.length ≤ 1048576) : Ev (fun k => laws_markRoleS.f k l 1) (1 + 2 * (l.length : Int), marksR l.length 1) := by
 have := markRoleS_ l.length l [] 1 rfl (by simpa using h) (by omega) (by omega)
 simpa [laws_markRoleS.f] using this
theorem heldRoleS (n : Nat) (h : n ≤ 1048576) : Ev (fun k => laws_heldRoleS.f k (marksR n 1) 1) (1 + 2 * (n : Int)) := by
 have := heldRoleS_ n [] 1 (by simpa using h) (by omega) (by omega)
 simpa [laws_heldRoleS.f] using this
theorem eqRoleS (l : List Role) (h : l.length ≤ 1048576) : Ev (fun k => laws_eqRoleS.f k l l) true := by
 unfold laws_eqRoleS.f
 simp only [↓reduceIte]
 refine Ev.up0 l.length (fun i k => laws_eqRoleS.l0 k l l i) (fun _ => true) ?_ ?_ 0 (Nat.zero_le _)
 ·intro i hi hn
  refine Ev.succ ?_
  simp only [laws_eqRoleS.l0, nat_lt, nat_0, hi, ↓reduceIte, eqRole_refl, Option.bind_some, up_ (show i < 4611686018427387904 by omega)]
  exact hn
 ·refine Ev.succ ?_
  simp only [laws_eqRoleS.l0, nat_lt, Nat.lt_irrefl, ↓reduceIte]
  exact Ev.now _
end Q
end Go.Proofs.Ytjpjidgfcljpcaa
