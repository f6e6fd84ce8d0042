/-
Circles in lists: looked for, put behind others once, marked and held; the circles of a policy.
-/
import Derived.Test.YtcbhmcpdnokbiaaKLQ0
namespace Go.Proofs.Ytcbhmcpdnokbiaa
open Go.RowKit Go.Proofs.YtcbhmcpdnokbiaaW.PrintWords Go.Proofs.YtcbhmcpdnokbiaaW.PrintLast Go.Proofs.YtcbhmcpdnokbiaaW.PrintMore Go.Proofs.Ytcbhmcpdnokbiaa.PA
set_option linter.unusedVariables false
set_option linter.unusedSimpArgs false
namespace Q
abbrev Role := S27
end Q
end Go.Proofs.Ytcbhmcpdnokbiaa

namespace Go.Proofs.Ytcbhmcpdnokbiaa
open Go.RowKit Go.Proofs.YtcbhmcpdnokbiaaW.PrintWords Go.Proofs.YtcbhmcpdnokbiaaW.PrintLast Go.Proofs.YtcbhmcpdnokbiaaW.PrintMore Go.Proofs.Ytcbhmcpdnokbiaa.PA
set_option linter.unusedVariables false
set_option linter.unusedSimpArgs false
namespace Q
def idxL {α : Type} (p : α → Bool) : List α → Int → Int
 | [], _ => -1
 | x :: xs, i => if p x = true then i else idxL p xs (i + 1)
theorem idxL_any {α : Type} (p : α → Bool) : ∀ (l : List α) (i : Int), 0 ≤ i → (decide (idxL p l i ≥ 0)) = l.any p := by
 intro l
 induction l with
 | nil => intro i h; simp [idxL]
 | cons x xs ih =>
  intro i h
  unfold idxL
  cases hp : p x
  ·simp [hp, ← ih (i + 1) (by omega)]
  ·simp [hp, h]
def isRole (a b : Int) (x : Role) : Bool := a == x.f0 && b == x.f1
theorem indexRole (l : List Role) (a b : Int) (h : l.length ≤ 1048576) : Ev (fun k => impl_Role_38.f k l a b) (idxL (isRole a b) l 0) := by
 unfold impl_Role_38.f
 refine Ev.up0 l.length (fun i k => impl_Role_38.l0 k l l.length i a b) (fun i => idxL (isRole a b) (l.drop i) i) ?_ ?_ 0 (Nat.zero_le _)
 ·intro i hi hn
  refine Ev.succ ?_
  simp only [impl_Role_38.l0, nat_lt, nat_0, hi, ↓reduceIte, rd_T27, getD_ _ hi, getDn_ _ hi, up_ (show i < 4611686018427387904 by omega)]
  rw [List.drop_eq_getElem_cons hi]
  unfold idxL
  unfold isRole at hn ⊢
  cases hb : (a == l[i].f0 && b == l[i].f1)
  ·simp only [Bool.false_eq_true, ↓reduceIte]
   exact hn
  ·simp only [↓reduceIte]
   exact Ev.now _
 ·refine Ev.succ ?_
  simp only [impl_Role_38.l0, nat_lt, Nat.lt_irrefl, ↓reduceIte, List.drop_length]
  exact Ev.now _
theorem containsRole (l : List Role) (a b : Int) (h : l.length ≤ 1048576) : Ev (fun k => impl_Role_25.f k l a b) (l.any (isRole a b)) := by
 unfold impl_Role_25.f
 refine Ev.bind (indexRole l a b h) ?_
 rw [← idxL_any (isRole a b) l 0 (Int.le_refl _)]
 exact Ev.now _
def addR (l : List Role) (r : Role) : List Role := if l.any (isRole r.f0 r.f1) = true then l else l ++ [r]
end Q
end Go.Proofs.Ytcbhmcpdnokbiaa
