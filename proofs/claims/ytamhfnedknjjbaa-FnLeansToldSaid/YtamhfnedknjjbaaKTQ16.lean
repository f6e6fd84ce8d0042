/-
To be one of the facts of a list of words: by rules. More words, no fewer facts; what holds on a day held before.
-/
import Derived.Test.YtamhfnedknjjbaaKTQ15
namespace Go.Proofs.Ytamhfnedknjjbaa
open Go.RowKit Go.Proofs.YtamhfnedknjjbaaW.PrintWords Go.Proofs.YtamhfnedknjjbaaW.PrintLast Go.Proofs.YtamhfnedknjjbaaW.PrintMore Go.Proofs.Ytamhfnedknjjbaa.PB
set_option linter.unusedVariables false
set_option linter.unusedSimpArgs false
namespace Q
inductive Der (list : List Cr) : Fc → Prop
 | mem (c : Cr) (h : c ∈ list) (ok : cOk c = true) (hk : c.f0 = 1) : Der list ⟨c.f1, c.f2⟩
 | frm (c : Cr) (h : c ∈ list) (ok : cOk c = true) (hk : c.f0 = 2) (w : Int) (d : Der list ⟨c.f3, w⟩) : Der list ⟨c.f1, w⟩
 | lnk (c : Cr) (h : c ∈ list) (ok : cOk c = true) (hk : c.f0 = 3) (x w : Int) (d1 : Der list ⟨c.f3, x⟩) (d2 : Der list ⟨⟨x, c.f4.f1⟩, w⟩) : Der list ⟨c.f1, w⟩
 | bth (c : Cr) (h : c ∈ list) (ok : cOk c = true) (hk : c.f0 = 4) (w : Int) (d1 : Der list ⟨c.f3, w⟩) (d2 : Der list ⟨c.f4, w⟩) : Der list ⟨c.f1, w⟩
theorem Der.more {l l' : List Cr} (h : ∀ c ∈ l, cOk c = true → c ∈ l') {f : Fc} (d : Der l f) : Der l' f := by
 induction d with
 | mem c hc ok hk => exact .mem c (h c hc ok) ok hk
 | frm c hc ok hk w _ ih => exact .frm c (h c hc ok) ok hk w ih
 | lnk c hc ok hk x w _ _ ih1 ih2 => exact .lnk c (h c hc ok) ok hk x w ih1 ih2
 | bth c hc ok hk w _ _ ih1 ih2 => exact .bth c (h c hc ok) ok hk w ih1 ih2
theorem Der.some {l : List Cr} {f : Fc} (d : Der l f) : ∃ c ∈ l, cOk c = true := by
 cases d with
 | mem c hc ok hk => exact ⟨c, hc, ok⟩
 | frm c hc ok hk w _ => exact ⟨c, hc, ok⟩
 | lnk c hc ok hk x w _ _ => exact ⟨c, hc, ok⟩
 | bth c hc ok hk w _ _ => exact ⟨c, hc, ok⟩
def IsLast (l : List Cr) (r : Rl) (w L : Int) : Prop := 0 ≤ L ∧ (L = 0 ∨ holdsC l r w L = true) ∧ ∀ d, L < d → holdsC l r w d = false
theorem IsLast.one {l : List Cr} {r : Rl} {w L L' : Int} (h : IsLast l r w L) (h' : IsLast l r w L') : L = L' := by
 obtain ⟨h1, h2, h3⟩ := h
 obtain ⟨h4, h5, h6⟩ := h'
 rcases Int.lt_trichotomy L L' with q | q | q
 ·rcases h5 with h5 | h5
  ·omega
  ·rw [h3 L' q] at h5; cases h5
 ·exact q
 ·rcases h2 with h2 | h2
  ·omega
  ·rw [h6 L q] at h2; cases h2
end Q
end Go.Proofs.Ytamhfnedknjjbaa
