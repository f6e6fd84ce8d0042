/-
Circles in lists: looked for, put behind others once, marked and held; the circles of a policy.
-/
import Derived.Test.YtnoklfpnmopkpaaKPPEx20
import Derived.Test.YtnoklfpnmopkpaaKPQ3
namespace Go.Proofs.Ytnoklfpnmopkpaa
open Go.RowKit Go.Proofs.YtnoklfpnmopkpaaW.PrintWords Go.Proofs.YtnoklfpnmopkpaaW.PrintLast Go.Proofs.YtnoklfpnmopkpaaW.PrintMore Go.Proofs.Ytnoklfpnmopkpaa.PE
set_option linter.unusedVariables false
set_option linter.unusedSimpArgs false
namespace Q
def idxL {α : Type} (p : α → Bool) : List α → Int → Int
 | [], _ => -1
 | x :: xs, i => if p x = true then i else idxL p xs (i + 1)
theorem idxL_any {α : Type} (p : α → Bool) : ∀ (l : List α) (i : Int), 0 ≤ i → (decide (idxL p l i ≥ 0)) = l.any p := by
 intro l
 induction l with
 | nil => intro i h; simp [idxL]
 | cons x xs ih =>
  intro i h
  unfold idxL
  cases hp : p x
  ·simp [hp, ← ih (i + 1) (by omega)]
  ·simp [hp, h]
def isRole (a b : Int) (x : Role) : Bool := a == x.f0 && b == x.f1
theorem isRole_comm (a b : Int) (x : Role) : (x.f0 == a && x.f1 == b) = isRole a b x := by
 unfold isRole
 rw [beqI, beqI, beqI, beqI]
 simp only [eq_comm]
theorem indexRole (l : List Role) (a b : Int) (h : l.length ≤ 1048576) : Ev (fun k => impl_Role_56.f k l a b) (idxL (isRole a b) l 0) := by
 unfold impl_Role_56.f
 refine Ev.up0 l.length (fun i k => impl_Role_56.l0 k l l.length i a b) (fun i => idxL (isRole a b) (l.drop i) i) ?_ ?_ 0 (Nat.zero_le _)
 ·intro i hi hn
  refine Ev.succ ?_
  simp only [impl_Role_56.l0, nat_lt, nat_0, hi, ↓reduceIte, rd_T55, getD_ _ hi, getDn_ _ hi, up_ (show i < 4611686018427387904 by omega)]
  rw [List.drop_eq_getElem_cons hi]
  unfold idxL
  unfold isRole at hn ⊢
  cases hb : (a == l[i].f0 && b == l[i].f1)
  ·simp only [Bool.false_eq_true, ↓reduceIte]
   exact hn
  ·simp only [↓reduceIte]
   exact Ev.now _
 ·refine Ev.succ ?_
  simp only [impl_Role_56.l0, nat_lt, Nat.lt_irrefl, ↓reduceIte, List.drop_length]
  exact Ev.now _
theorem containsRole (l : List Role) (a b : Int) (h : l.length ≤ 1048576) : Ev (fun k => impl_Role_43.f k l a b) (l.any (isRole a b)) := by
 unfold impl_Role_43.f
 refine Ev.bind (indexRole l a b h) ?_
 rw [← idxL_any (isRole a b) l 0 (Int.le_refl _)]
 exact Ev.now _
def addR (l : List Role) (r : Role) : List Role := if l.any (isRole r.f0 r.f1) = true then l else l ++ [r]
theorem addR_len (l : List Role) (r : Role) : (addR l r).length ≤ l.length + 1 := by
 unfold addR
 split
 ·omega
 ·simp
theorem spec_has (l : List Role) (a b : Int) (h : l.length ≤ 1048576) : Ev (fun k => spec_l13Done.f k l a b) (l.any (isRole a b)) := by
 unfold spec_l13Done.f
 have key := Ev.up0 l.length (fun i k => spec_l13Done.l0 k l i a b) (fun i => (l.drop i).any (isRole a b)) ?_ ?_ 0 (Nat.zero_le _)
 ·exact key
 ·intro i hi hn
  refine Ev.succ ?_
  simp only [spec_l13Done.l0, nat_lt, nat_0, hi, ↓reduceIte, rd_T55, getD_ _ hi, getDn_ _ hi, up_ (show i < 4611686018427387904 by omega)]
  rw [List.drop_eq_getElem_cons hi, List.any_cons, ← isRole_comm]
  cases hb : (l[i].f0 == a && l[i].f1 == b)
  ·simp only [Bool.false_eq_true, ↓reduceIte, Bool.false_or]
   exact hn
  ·simp only [↓reduceIte, Bool.true_or]
   exact Ev.now _
 ·refine Ev.succ ?_
  simp only [spec_l13Done.l0, nat_lt, Nat.lt_irrefl, ↓reduceIte, List.drop_length]
  exact Ev.now _
theorem spec_add (l : List Role) (a b : Int) (h : l.length ≤ 1048576) : Ev (fun k => spec_l18Add.f k l a b) (addR l ⟨a, b⟩) := by
 unfold spec_l18Add.f addR
 refine Ev.bind (spec_has l a b h) ?_
 cases hb : l.any (isRole a b)
 ·simp only [Bool.false_eq_true, ↓reduceIte, Option.bind_some, List.nil_append, List.length_nil, List.length_singleton, show 0 + l.length < 8796093022208 by omega, show l.length + 1 < 8796093022208 by omega]
  exact Ev.now _
 ·simp only [↓reduceIte]
  exact Ev.now _
def rolesB (l : List Node) (acc : List Role) : List Role := l.foldl (fun a x => if x.f0 = 1 then addR a x.f1 else a) acc
def policyRolesB (l : List Node) : List Role := if policyOkB l = true then rolesB l [] else []
theorem rolesB_len : ∀ (l : List Node) (acc : List Role), (rolesB l acc).length ≤ acc.length + l.length := by
 intro l
 induction l with
 | nil => intro acc; simp [rolesB]
 | cons x xs ih =>
  intro acc
  have := ih (if x.f0 = 1 then addR acc x.f1 else acc)
  have h2 := addR_len acc x.f1
  unfold rolesB at this ⊢
  rw [List.foldl_cons, List.length_cons]
  split at this <;> rename_i h
  ·simp only [h, ↓reduceIte]; omega
  ·simp only [h, ↓reduceIte]; omega
theorem policyRolesB_len (l : List Node) : (policyRolesB l).length ≤ l.length := by
 unfold policyRolesB
 split
 ·have := rolesB_len l []; simpa using this
 ·simp
theorem spec_PolicyRoles (l : List Node) (h : l.length ≤ 1048576) : Ev (fun k => spec_PolicyRoles.f k l) (policyRolesB l) := by
 unfold spec_PolicyRoles.f policyRolesB
 simp only [Option.bind_some]
 refine Ev.bind (spec_PolicyOk l h) ?_
 cases hp : policyOkB l
 ·exact Ev.now _
 ·obtain ⟨hl, hn⟩ := policyOk_nodes hp
  simp only [↓reduceIte]
  refine Ev.up l.length (fun i (s : List Role) k => spec_PolicyRoles.l0 k s i l) (fun i s => rolesB (l.drop i) s) (fun i s => s.length ≤ i) ?_ ?_ 0 [] (Nat.zero_le _) (by simp)
  ·intro i s hi hs ih
   refine Ev.succ ?_
   simp only [spec_PolicyRoles.l0, nat_lt, nat_0, hi, ↓reduceIte, rd_T57, getD_ _ hi, getDn_ _ hi, up_ (show i < 4611686018427387904 by omega)]
   rw [List.drop_eq_getElem_cons hi]
   unfold rolesB at ih ⊢
   rw [List.foldl_cons]
   by_cases h1 : l[i].f0 = 1
   ·simp only [h1, ↓reduceIte]
    refine Ev.bind (spec_add s _ _ (by omega)) ?_
    exact ih (addR s l[i].f1) (by have := addR_len s l[i].f1; omega)
   ·simp only [h1, ↓reduceIte]
    exact ih _ (by omega)
  ·intro s _
   refine Ev.succ ?_
   simp only [spec_PolicyRoles.l0, nat_lt, Nat.lt_irrefl, ↓reduceIte, List.drop_length]
   exact Ev.now _
theorem impl_PolicyRoles (l : List Node) (h : l.length ≤ 1048576) : Ev (fun k => impl_PolicyRoles.f k l) (policyRolesB l) := by
 unfold impl_PolicyRoles.f policyRolesB
 refine Ev.bind (impl_PolicyOk l h) ?_
 cases hp : policyOkB l
 ·exact Ev.now _
 ·obtain ⟨hl, hn⟩ := policyOk_nodes hp
  simp only [↓reduceIte]
  refine Ev.up l.length (fun i (s : List Role) k => impl_PolicyRoles.l0 k s l l.length i) (fun i s => rolesB (l.drop i) s) (fun i s => s.length ≤ i) ?_ ?_ 0 [] (Nat.zero_le _) (by simp)
  ·intro i s hi hs ih
   refine Ev.succ ?_
   simp only [impl_PolicyRoles.l0, nat_lt, nat_0, hi, ↓reduceIte, rd_T57, getD_ _ hi, getDn_ _ hi, up_ (show i < 4611686018427387904 by omega)]
   rw [List.drop_eq_getElem_cons hi]
   unfold rolesB at ih ⊢
   rw [List.foldl_cons]
   by_cases h1 : l[i].f0 = 1
   ·simp only [h1, ↓reduceIte]
    refine Ev.bind (containsRole s _ _ (by omega)) ?_
    unfold addR
    cases hb : s.any (isRole l[i].f1.f0 l[i].f1.f1)
    ·simp only [Bool.false_eq_true, ↓reduceIte, show s.length < 8796093022208 by omega]
     exact ih _ (by simp; omega)
    ·simp only [↓reduceIte]
     exact ih _ (by omega)
   ·simp only [h1, ↓reduceIte]
    exact ih _ (by omega)
  ·intro s _
   refine Ev.succ ?_
   simp only [impl_PolicyRoles.l0, nat_lt, Nat.lt_irrefl, ↓reduceIte, List.drop_length]
   exact Ev.now _
end Q
end Go.Proofs.Ytnoklfpnmopkpaa
