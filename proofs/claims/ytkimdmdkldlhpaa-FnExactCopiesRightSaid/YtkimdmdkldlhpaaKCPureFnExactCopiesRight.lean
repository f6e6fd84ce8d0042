/-
FnExactCopiesRight: the law's plain answer is always true.
-/
import Derived.Test.YtkimdmdkldlhpaaKCQ79
namespace Go.Proofs.Ytkimdmdkldlhpaa
open Go.RowKit Go.Proofs.YtkimdmdkldlhpaaW.PrintWords Go.Proofs.YtkimdmdkldlhpaaW.PrintLast Go.Proofs.YtkimdmdkldlhpaaW.PrintMore Go.Proofs.Ytkimdmdkldlhpaa.PA
set_option linter.unusedVariables false
set_option linter.unusedSimpArgs false
namespace Q
theorem sum_mono {α : Type} (f g : α → Nat) : ∀ l : List α, (∀ x ∈ l, f x ≤ g x) → (l.map f).sum ≤ (l.map g).sum
 | [], _ => by simp
 | x :: l, h => by
  have h1 := h x List.mem_cons_self
  have h2 := sum_mono f g l fun y hy => h y (List.mem_cons_of_mem _ hy)
  simp only [List.map_cons, List.sum_cons]
  omega
theorem w_le (x : LPeer) : wPer (toP x) ≤ mPeer x := by
 have h := sum_mono (fun s : LShelf => (toSh s).f1.length) mShelf x.f5 (fun s _ => by
  show (s.f1.map toI).length ≤ mItems s.f1
  unfold mItems
  rw [List.length_map]
  omega)
 have e : wPer (toP x) = (x.f5.map fun s => (toSh s).f1.length).sum := by
  unfold wPer toP
  rw [List.map_map]
  rfl
 rw [e]
 unfold mPeer mShelves
 omega
theorem w_all {l : List LPeer} (h : mPeers l ≤ 1048576) : ((l.map toP).map wPer).sum ≤ 1048576 := by
 have h1 := sum_mono (fun x => wPer (toP x)) mPeer l fun x _ => w_le x
 rw [List.map_map]
 unfold mPeers at h
 have e : (l.map (wPer ∘ toP)).sum = (l.map fun x => wPer (toP x)).sum := rfl
 omega
end Q
theorem Pure.FnExactCopiesRight : ∀ (x0 : S24), G24 x0 → ∃ k, laws_FnExactCopiesRight.f k x0.f0 = some true := by
 intro x0 hg
 refine Q.Ev.get (g := fun k => laws_FnExactCopiesRight.f k x0.f0) ?_
 unfold laws_FnExactCopiesRight.f
 refine Ev.bind (Q.zRing x0.f0 hg 1048576 (by omega) (by omega)) ?_
 by_cases h : ((Q.mPeers x0.f0 : Nat) : Int) ≤ 1048576
 ·have hm : Q.mPeers x0.f0 ≤ 1048576 := by omega
  have hw := Q.okPeers hm
  have hr := Q.okToP hw
  have hs := Q.w_all hm
  have h2 : ¬ ((1048576 : Int) - ((Q.mPeers x0.f0 : Nat) : Int) < 0) := by omega
  simp only [h, h2, ↓reduceIte]
  refine Ev.bind (Q.cRing x0.f0 hw) (Ev.bind (Q.spec_Copies _ hr hs) (Ev.bind (Q.cRing x0.f0 hw) (Ev.bind (Q.impl_Copies _ hr hs) ?_)))
  simp only [bne_self_eq_false, Bool.false_eq_true, ↓reduceIte]
  refine Ev.bind (Q.cRing x0.f0 hw) ?_
  exact Q.Ev.tt (Q.qRing _ hr) (Ev.now _)
 ·simp only [h, ↓reduceIte, show ((-1 : Int) < 0) by omega]
  exact Ev.now _
end Go.Proofs.Ytkimdmdkldlhpaa
