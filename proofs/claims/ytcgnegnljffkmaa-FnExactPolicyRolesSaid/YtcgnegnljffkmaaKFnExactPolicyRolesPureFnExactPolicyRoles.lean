/-
Circles in lists: looked for, put behind others once, marked and held; the circles of a policy.
-/
import Derived.Test.YtcgnegnljffkmaaKFnExactPolicyRolesPAx0
import Derived.Test.YtcgnegnljffkmaaKFnExactPolicyRolesPAxo
import Derived.Test.YtcgnegnljffkmaaKFnExactPolicyRolesPAx15
import Derived.Test.YtcgnegnljffkmaaKFnExactPolicyRolesPAx16
import Derived.Test.YtcgnegnljffkmaaKFnExactPolicyRolesPAx17
import Derived.Test.YtcgnegnljffkmaaKFnExactPolicyRolesPAx18
import Derived.Test.YtcgnegnljffkmaaKFnExactPolicyRolesPureFnExactPolicyText
namespace Go.Proofs.Ytcgnegnljffkmaa
open Go.RowKit Go.Proofs.YtcgnegnljffkmaaW.PrintWords Go.Proofs.YtcgnegnljffkmaaW.PrintLast Go.Proofs.YtcgnegnljffkmaaW.PrintMore Go.Proofs.Ytcgnegnljffkmaa.PA
set_option linter.unusedVariables false
set_option linter.unusedSimpArgs false
namespace Q
def idxL {α : Type} (p : α → Bool) : List α → Int → Int
  | [], _ => -1
  | x :: xs, i => if p x = true then i else idxL p xs (i + 1)
theorem idxL_any {α : Type} (p : α → Bool) : ∀ (l : List α) (i : Int), 0 ≤ i → (decide (idxL p l i ≥ 0)) = l.any p := by
  intro l
  induction l with
  | nil => intro i h; simp [idxL]
  | cons x xs ih =>
    intro i h
    unfold idxL
    cases hp : p x
    · simp [hp, ← ih (i + 1) (by omega)]
    · simp [hp, h]
def isRole (a b : Int) (x : Role) : Bool := a == x.f0 && b == x.f1
theorem isRole_comm (a b : Int) (x : Role) : (x.f0 == a && x.f1 == b) = isRole a b x := by
  unfold isRole
  rw [beqI, beqI, beqI, beqI]
  simp only [eq_comm]
theorem indexRole (l : List Role) (a b : Int) (h : l.length ≤ 1048576) : Ev (fun k => impl_Role_141.f k l a b) (idxL (isRole a b) l 0) := by
  unfold impl_Role_141.f
  refine Ev.up0 l.length (fun i k => impl_Role_141.l0 k l l.length i a b) (fun i => idxL (isRole a b) (l.drop i) i) ?_ ?_ 0 (Nat.zero_le _)
  · intro i hi hn
    refine Ev.succ ?_
    simp only [impl_Role_141.l0, nat_lt, nat_0, hi, ↓reduceIte, rd_T27, getD_ _ hi, getDn_ _ hi, up_ (show i < 4611686018427387904 by omega)]
    rw [List.drop_eq_getElem_cons hi]
    unfold idxL
    unfold isRole at hn ⊢
    cases hb : (a == l[i].f0 && b == l[i].f1)
    · simp only [Bool.false_eq_true, ↓reduceIte]
      exact hn
    · simp only [↓reduceIte]
      exact Ev.now _
  · refine Ev.succ ?_
    simp only [impl_Role_141.l0, nat_lt, Nat.lt_irrefl, ↓reduceIte, List.drop_length]
    exact Ev.now _
theorem containsRole (l : List Role) (a b : Int) (h : l.length ≤ 1048576) : Ev (fun k => impl_Role_113.f k l a b) (l.any (isRole a b)) := by
  unfold impl_Role_113.f
  refine Ev.bind (indexRole l a b h) ?_
  rw [← idxL_any (isRole a b) l 0 (Int.le_refl _)]
  exact Ev.now _
def addR (l : List Role) (r : Role) : List Role := if l.any (isRole r.f0 r.f1) = true then l else l ++ [r]
theorem addR_len (l : List Role) (r : Role) : (addR l r).length ≤ l.length + 1 := by
  unfold addR
  split
  · omega
  · simp
theorem spec_has (l : List Role) (a b : Int) (h : l.length ≤ 1048576) : Ev (fun k => spec_l13Done.f k l a b) (l.any (isRole a b)) := by
  unfold spec_l13Done.f
  have key := Ev.up0 l.length (fun i k => spec_l13Done.l0 k l i a b) (fun i => (l.drop i).any (isRole a b)) ?_ ?_ 0 (Nat.zero_le _)
  · exact key
  · intro i hi hn
    refine Ev.succ ?_
    simp only [spec_l13Done.l0, nat_lt, nat_0, hi, ↓reduceIte, rd_T27, getD_ _ hi, getDn_ _ hi, up_ (show i < 4611686018427387904 by omega)]
    rw [List.drop_eq_getElem_cons hi, List.any_cons, ← isRole_comm]
    cases hb : (l[i].f0 == a && l[i].f1 == b)
    · simp only [Bool.false_eq_true, ↓reduceIte, Bool.false_or]
      exact hn
    · simp only [↓reduceIte, Bool.true_or]
      exact Ev.now _
  · refine Ev.succ ?_
    simp only [spec_l13Done.l0, nat_lt, Nat.lt_irrefl, ↓reduceIte, List.drop_length]
    exact Ev.now _
theorem spec_add (l : List Role) (a b : Int) (h : l.length ≤ 1048576) : Ev (fun k => spec_l18Add.f k l a b) (addR l ⟨a, b⟩) := by
  unfold spec_l18Add.f addR
  refine Ev.bind (spec_has l a b h) ?_
  cases hb : l.any (isRole a b)
  · simp only [Bool.false_eq_true, ↓reduceIte, Option.bind_some, List.nil_append, List.length_nil, List.length_singleton, show 0 + l.length < 8796093022208 by omega, show l.length + 1 < 8796093022208 by omega]
    exact Ev.now _
  · simp only [↓reduceIte]
    exact Ev.now _
theorem rd_set {α : Type} (l : List α) (i : Nat) (h : i < l.length) (x z : α) : (l.set i x).getD i z = x := by simp [h]
theorem set_set {α : Type} (l : List α) (i : Nat) (x y : α) : (l.set i x).set i y = l.set i y := by simp
def marksR : Nat → Int → List Role
  | 0, _ => []
  | n + 1, k => ⟨k, k + 1⟩ :: marksR n (k + 2)
theorem markRoleS_ (n : Nat) : ∀ (l pre : List Role) (m : Int), l.length = n → pre.length + n ≤ 1048576 → 0 ≤ m → m + 2 * n ≤ 4611686018427387904 →
    Ev (fun k => laws_markRoleS.l0 k (pre ++ l) m pre.length) (m + 2 * n, pre ++ marksR n m) := by
  induction n with
  | zero =>
    intro l pre m h1 h2 h3 h4
    obtain rfl := List.length_eq_zero_iff.1 h1
    refine Ev.succ ?_
    simp only [laws_markRoleS.l0, List.append_nil, Int.lt_irrefl, ↓reduceIte, marksR]
    simpa using Ev.now (m, pre)
  | succ n ih =>
    intro l pre m h1 h2 h3 h4
    obtain ⟨x, xs, rfl⟩ : ∃ x xs, l = x :: xs := by cases l with | nil => simp at h1 | cons x xs => exact ⟨x, xs, rfl⟩
    refine Ev.succ ?_
    have hi : pre.length < (pre ++ x :: xs).length := by simp
    simp only [laws_markRoleS.l0, nat_lt, nat_0, hi, ↓reduceIte, Option.bind_some, rd_T27, Int.toNat_natCast, rd_set _ _ hi, set_set, up_ (show pre.length < 4611686018427387904 by omega)]
    rw [w64 (n := m + 1) (by omega) (by omega), w64 (n := m + 1 + 1) (by omega) (by omega)]
    have e1 : (pre ++ x :: xs).set pre.length (⟨m, m + 1⟩ : Role) = (pre ++ [⟨m, m + 1⟩]) ++ xs := by simp
    have := ih xs (pre ++ [⟨m, m + 1⟩]) (m + 2) (by simpa using h1) (by simp; omega) (by omega) (by omega)
    rw [e1, show m + 1 + 1 = m + 2 by omega]
    simp only [List.length_append, List.length_singleton] at this
    have e2 : (m + 2 * ((n + 1 : Nat) : Int), pre ++ marksR (n + 1) m) = (m + 2 + 2 * (n : Int), pre ++ [(⟨m, m + 1⟩ : Role)] ++ marksR n (m + 2)) := by
      simp [marksR]; omega
    rw [e2]
    exact this
theorem heldRoleS_ (n : Nat) : ∀ (pre : List Role) (m : Int), pre.length + n ≤ 1048576 → 0 ≤ m → m + 2 * n ≤ 4611686018427387904 →
    Ev (fun k => laws_heldRoleS.l0 k (pre ++ marksR n m) m pre.length) (m + 2 * n) := by
  induction n with
  | zero =>
    intro pre m h2 h3 h4
    refine Ev.succ ?_
    simp only [laws_heldRoleS.l0, marksR, List.append_nil, Int.lt_irrefl, ↓reduceIte]
    simpa using Ev.now m
  | succ n ih =>
    intro pre m h2 h3 h4
    refine Ev.succ ?_
    have hi : pre.length < (pre ++ marksR (n + 1) m).length := by simp [marksR]
    have e0 : (pre ++ marksR (n + 1) m).getD pre.length z27 = ⟨m, m + 1⟩ := by simp [marksR]
    simp only [laws_heldRoleS.l0, nat_lt, nat_0, hi, ↓reduceIte, rd_T27, Int.toNat_natCast, e0, up_ (show pre.length < 4611686018427387904 by omega)]
    rw [w64 (n := m + 1) (by omega) (by omega), w64 (n := m + 1 + 1) (by omega) (by omega)]
    simp only [↓reduceIte]
    have := ih (pre ++ [⟨m, m + 1⟩]) (m + 2) (by simp; omega) (by omega) (by omega)
    simp only [List.length_append, List.length_singleton] at this
    have e2 : m + 2 * ((n + 1 : Nat) : Int) = m + 2 + 2 * (n : Int) := by omega
    have e3 : pre ++ marksR (n + 1) m = pre ++ [(⟨m, m + 1⟩ : Role)] ++ marksR n (m + 2) := by simp [marksR]
    rw [e2, e3, show m + 1 + 1 = m + 2 by omega]
    exact this
theorem markRoleS (l : List Role) (h : l.length ≤ 1048576) : Ev (fun k => laws_markRoleS.f k l 1) (1 + 2 * (l.length : Int), marksR l.length 1) := by
  have := markRoleS_ l.length l [] 1 rfl (by simpa using h) (by omega) (by omega)
  simpa [laws_markRoleS.f] using this
theorem heldRoleS (n : Nat) (h : n ≤ 1048576) : Ev (fun k => laws_heldRoleS.f k (marksR n 1) 1) (1 + 2 * (n : Int)) := by
  have := heldRoleS_ n [] 1 (by simpa using h) (by omega) (by omega)
  simpa [laws_heldRoleS.f] using this
theorem eqRoleS (l : List Role) (h : l.length ≤ 1048576) : Ev (fun k => laws_eqRoleS.f k l l) true := by
  unfold laws_eqRoleS.f
  simp only [↓reduceIte]
  refine Ev.up0 l.length (fun i k => laws_eqRoleS.l0 k l l i) (fun _ => true) ?_ ?_ 0 (Nat.zero_le _)
  · intro i hi hn
    refine Ev.succ ?_
    simp only [laws_eqRoleS.l0, nat_lt, nat_0, hi, ↓reduceIte, eqRole_refl, Option.bind_some, up_ (show i < 4611686018427387904 by omega)]
    exact hn
  · refine Ev.succ ?_
    simp only [laws_eqRoleS.l0, nat_lt, Nat.lt_irrefl, ↓reduceIte]
    exact Ev.now _
def marksN : Nat → Int → List Node
  | 0, _ => []
  | n + 1, k => ⟨k, ⟨k + 1, k + 2⟩, k + 3, k + 4⟩ :: marksN n (k + 5)
theorem markPolNodeS_ (n : Nat) : ∀ (l pre : List Node) (m : Int), l.length = n → pre.length + n ≤ 1048576 → 0 ≤ m → m + 5 * n ≤ 4611686018427387904 →
    Ev (fun k => laws_markPolNodeS.l0 k (pre ++ l) m pre.length) (m + 5 * n, pre ++ marksN n m) := by
  induction n with
  | zero =>
    intro l pre m h1 h2 h3 h4
    obtain rfl := List.length_eq_zero_iff.1 h1
    refine Ev.succ ?_
    simp only [laws_markPolNodeS.l0, List.append_nil, Int.lt_irrefl, ↓reduceIte, marksN]
    simpa using Ev.now (m, pre)
  | succ n ih =>
    intro l pre m h1 h2 h3 h4
    obtain ⟨x, xs, rfl⟩ : ∃ x xs, l = x :: xs := by cases l with | nil => simp at h1 | cons x xs => exact ⟨x, xs, rfl⟩
    refine Ev.succ ?_
    have hi : pre.length < (pre ++ x :: xs).length := by simp
    simp only [laws_markPolNodeS.l0, nat_lt, nat_0, hi, ↓reduceIte, Option.bind_some, rd_T105, Int.toNat_natCast, rd_set _ _ hi, set_set, up_ (show pre.length < 4611686018427387904 by omega)]
    rw [w64 (n := m + 1) (by omega) (by omega), w64 (n := m + 1 + 1) (by omega) (by omega), w64 (n := m + 1 + 1 + 1) (by omega) (by omega), w64 (n := m + 1 + 1 + 1 + 1) (by omega) (by omega), w64 (n := m + 1 + 1 + 1 + 1 + 1) (by omega) (by omega)]
    have e1 : (pre ++ x :: xs).set pre.length (⟨m, ⟨m + 1, m + 1 + 1⟩, m + 1 + 1 + 1, m + 1 + 1 + 1 + 1⟩ : Node) = (pre ++ [⟨m, ⟨m + 1, m + 2⟩, m + 3, m + 4⟩]) ++ xs := by
      rw [show m + 1 + 1 = m + 2 by omega, show m + 2 + 1 = m + 3 by omega, show m + 3 + 1 = m + 4 by omega]; simp
    have := ih xs (pre ++ [⟨m, ⟨m + 1, m + 2⟩, m + 3, m + 4⟩]) (m + 5) (by simpa using h1) (by simp; omega) (by omega) (by omega)
    rw [e1, show m + 1 + 1 + 1 + 1 + 1 = m + 5 by omega]
    simp only [List.length_append, List.length_singleton] at this
    have e2 : (m + 5 * ((n + 1 : Nat) : Int), pre ++ marksN (n + 1) m) = (m + 5 + 5 * (n : Int), pre ++ [(⟨m, ⟨m + 1, m + 2⟩, m + 3, m + 4⟩ : Node)] ++ marksN n (m + 5)) := by
      simp [marksN]; omega
    rw [e2]
    exact this
theorem markPolicy (l : List Node) (h : l.length ≤ 1048576) : Ev (fun k => laws_markPolicy.f k l 1) (1 + 5 * (l.length : Int), marksN l.length 1) := by
  unfold laws_markPolicy.f
  refine Ev.bind (a := (1 + 5 * (l.length : Int), marksN l.length 1)) ?_ (Ev.now _)
  have := markPolNodeS_ l.length l [] 1 rfl (by simpa using h) (by omega) (by omega)
  simpa [laws_markPolNodeS.f] using this
def rolesB (l : List Node) (acc : List Role) : List Role := l.foldl (fun a x => if x.f0 = 1 then addR a x.f1 else a) acc
def policyRolesB (l : List Node) : List Role := if policyOkB l = true then rolesB l [] else []
theorem rolesB_len : ∀ (l : List Node) (acc : List Role), (rolesB l acc).length ≤ acc.length + l.length := by
  intro l
  induction l with
  | nil => intro acc; simp [rolesB]
  | cons x xs ih =>
    intro acc
    have := ih (if x.f0 = 1 then addR acc x.f1 else acc)
    have h2 := addR_len acc x.f1
    unfold rolesB at this ⊢
    rw [List.foldl_cons, List.length_cons]
    split at this <;> rename_i h
    · simp only [h, ↓reduceIte]; omega
    · simp only [h, ↓reduceIte]; omega
theorem policyRolesB_len (l : List Node) : (policyRolesB l).length ≤ l.length := by
  unfold policyRolesB
  split
  · have := rolesB_len l []; simpa using this
  · simp
theorem spec_PolicyRoles (l : List Node) (h : l.length ≤ 1048576) : Ev (fun k => spec_PolicyRoles.f k l) (policyRolesB l) := by
  unfold spec_PolicyRoles.f policyRolesB
  simp only [Option.bind_some]
  refine Ev.bind (spec_PolicyOk l h) ?_
  cases hp : policyOkB l
  · exact Ev.now _
  · obtain ⟨hl, hn⟩ := policyOk_nodes hp
    simp only [↓reduceIte]
    refine Ev.up l.length (fun i (s : List Role) k => spec_PolicyRoles.l0 k s i l) (fun i s => rolesB (l.drop i) s) (fun i s => s.length ≤ i) ?_ ?_ 0 [] (Nat.zero_le _) (by simp)
    · intro i s hi hs ih
      refine Ev.succ ?_
      simp only [spec_PolicyRoles.l0, nat_lt, nat_0, hi, ↓reduceIte, rd_T105, getD_ _ hi, getDn_ _ hi, up_ (show i < 4611686018427387904 by omega)]
      rw [List.drop_eq_getElem_cons hi]
      unfold rolesB at ih ⊢
      rw [List.foldl_cons]
      by_cases h1 : l[i].f0 = 1
      · simp only [h1, ↓reduceIte]
        refine Ev.bind (spec_add s _ _ (by omega)) ?_
        exact ih (addR s l[i].f1) (by have := addR_len s l[i].f1; omega)
      · simp only [h1, ↓reduceIte]
        exact ih _ (by omega)
    · intro s _
      refine Ev.succ ?_
      simp only [spec_PolicyRoles.l0, nat_lt, Nat.lt_irrefl, ↓reduceIte, List.drop_length]
      exact Ev.now _
theorem impl_PolicyRoles (l : List Node) (h : l.length ≤ 1048576) : Ev (fun k => impl_PolicyRoles.f k l) (policyRolesB l) := by
  unfold impl_PolicyRoles.f policyRolesB
  refine Ev.bind (impl_PolicyOk l h) ?_
  cases hp : policyOkB l
  · exact Ev.now _
  · obtain ⟨hl, hn⟩ := policyOk_nodes hp
    simp only [↓reduceIte]
    refine Ev.up l.length (fun i (s : List Role) k => impl_PolicyRoles.l0 k s l l.length i) (fun i s => rolesB (l.drop i) s) (fun i s => s.length ≤ i) ?_ ?_ 0 [] (Nat.zero_le _) (by simp)
    · intro i s hi hs ih
      refine Ev.succ ?_
      simp only [impl_PolicyRoles.l0, nat_lt, nat_0, hi, ↓reduceIte, rd_T105, getD_ _ hi, getDn_ _ hi, up_ (show i < 4611686018427387904 by omega)]
      rw [List.drop_eq_getElem_cons hi]
      unfold rolesB at ih ⊢
      rw [List.foldl_cons]
      by_cases h1 : l[i].f0 = 1
      · simp only [h1, ↓reduceIte]
        refine Ev.bind (containsRole s _ _ (by omega)) ?_
        unfold addR
        cases hb : s.any (isRole l[i].f1.f0 l[i].f1.f1)
        · simp only [Bool.false_eq_true, ↓reduceIte, show s.length < 8796093022208 by omega]
          exact ih _ (by simp; omega)
        · simp only [↓reduceIte]
          exact ih _ (by omega)
      · simp only [h1, ↓reduceIte]
        exact ih _ (by omega)
    · intro s _
      refine Ev.succ ?_
      simp only [impl_PolicyRoles.l0, nat_lt, Nat.lt_irrefl, ↓reduceIte, List.drop_length]
      exact Ev.now _
end Q
theorem Pure.FnExactPolicyRoles : ∀ (x0 : S34), G34 x0 → ∃ k, laws_FnExactPolicyRoles.f k x0.f0 = some true := by
  intro x0 hg
  have hl : x0.f0.length ≤ 9223372036854775807 := hg.1
  refine Q.Ev.get (g := fun k => laws_FnExactPolicyRoles.f k x0.f0) ?_
  unfold laws_FnExactPolicyRoles.f
  rw [Q.szPolicy _ hl]
  by_cases h1 : x0.f0.length ≤ 1048576
  · simp only [h1, ↓reduceIte, Option.bind_some, show ¬ ((1048576 : Int) - (x0.f0.length : Int) < 0) by omega]
    have hm : (x0.f0.map Q.toN).length ≤ 1048576 := by rw [List.length_map]; exact h1
    have hr : (Q.policyRolesB (x0.f0.map Q.toN)).length ≤ 1048576 := by have := Q.policyRolesB_len (x0.f0.map Q.toN); omega
    refine Ev.bind (Q.toPolicy _ h1) ?_
    refine Ev.bind (Q.spec_PolicyRoles _ hm) ?_
    refine Ev.bind (Q.toPolicy _ h1) ?_
    refine Ev.bind (Q.impl_PolicyRoles _ hm) ?_
    refine Ev.bind (Q.eqRoleS _ hr) ?_
    simp only [↓reduceIte]
    refine Ev.bind (Q.toPolicy _ h1) ?_
    refine Ev.bind (Q.eqPolicy _ hm) ?_
    simp only [↓reduceIte]
    refine Ev.bind (Q.markPolicy _ hm) ?_
    simp only [show ¬ ((1 : Int) + 5 * ((x0.f0.map Q.toN).length : Int) < 0) by omega, ↓reduceIte]
    refine Ev.bind (Q.eqRoleS _ hr) ?_
    refine Q.Ev.succ ?_
    simp only [laws_FnExactPolicyRoles.j0, Bool.not_true, Bool.false_eq_true, ↓reduceIte]
    refine Ev.bind (Q.markRoleS _ hr) ?_
    refine Ev.bind (Q.heldRoleS _ hr) ?_
    simp only [show ¬ ((1 : Int) + 2 * ((Q.policyRolesB (x0.f0.map Q.toN)).length : Int) < 0) by omega, ↓reduceIte]
    refine Ev.bind (Q.toPolicy _ h1) ?_
    refine Ev.bind (Q.impl_PolicyRoles _ hm) ?_
    refine Ev.bind (Q.eqRoleS _ hr) ?_
    simp only [↓reduceIte]
    refine Ev.bind (Q.heldRoleS _ hr) ?_
    simp only [show ¬ ((1 : Int) + 2 * ((Q.policyRolesB (x0.f0.map Q.toN)).length : Int) < 0) by omega, ↓reduceIte]
    exact Ev.now _
  · simp only [h1, ↓reduceIte, Option.bind_some, show ((-1 : Int) < 0) by omega]
    exact Ev.now _
end Go.Proofs.Ytcgnegnljffkmaa
