/-
To be one of the facts of a list of words: by rules. More words, no fewer facts; what holds on a day held before.
-/
import Derived.Test.YtnoklfpnmopkpaaKPQ14
namespace Go.Proofs.Ytnoklfpnmopkpaa
open Go.RowKit Go.Proofs.YtnoklfpnmopkpaaW.PrintWords Go.Proofs.YtnoklfpnmopkpaaW.PrintLast Go.Proofs.YtnoklfpnmopkpaaW.PrintMore Go.Proofs.Ytnoklfpnmopkpaa.PE
set_option linter.unusedVariables false
set_option linter.unusedSimpArgs false
namespace Q
def aliveC (now : Int) (l : List Cr) : List Cr := l.filter fun c => cOk c && decide (c.f5 ≥ now)
def memF (l : List Cr) (r : Rl) (w : Int) : Bool := decide ((⟨r, w⟩ : Fc) ∈ factsF l)
def holdsC (l : List Cr) (r : Rl) (w now : Int) : Bool := memF (aliveC now l) r w
end Q
end Go.Proofs.Ytnoklfpnmopkpaa

namespace Go.Proofs.Ytnoklfpnmopkpaa
open Go.RowKit Go.Proofs.YtnoklfpnmopkpaaW.PrintWords Go.Proofs.YtnoklfpnmopkpaaW.PrintLast Go.Proofs.YtnoklfpnmopkpaaW.PrintMore Go.Proofs.Ytnoklfpnmopkpaa.PE
set_option linter.unusedVariables false
set_option linter.unusedSimpArgs false
namespace Q
inductive Der (list : List Cr) : Fc → Prop
 | mem (c : Cr) (h : c ∈ list) (ok : cOk c = true) (hk : c.f0 = 1) : Der list ⟨c.f1, c.f2⟩
 | frm (c : Cr) (h : c ∈ list) (ok : cOk c = true) (hk : c.f0 = 2) (w : Int) (d : Der list ⟨c.f3, w⟩) : Der list ⟨c.f1, w⟩
 | lnk (c : Cr) (h : c ∈ list) (ok : cOk c = true) (hk : c.f0 = 3) (x w : Int) (d1 : Der list ⟨c.f3, x⟩) (d2 : Der list ⟨⟨x, c.f4.f1⟩, w⟩) : Der list ⟨c.f1, w⟩
 | bth (c : Cr) (h : c ∈ list) (ok : cOk c = true) (hk : c.f0 = 4) (w : Int) (d1 : Der list ⟨c.f3, w⟩) (d2 : Der list ⟨c.f4, w⟩) : Der list ⟨c.f1, w⟩
theorem Der.some {l : List Cr} {f : Fc} (d : Der l f) : ∃ c ∈ l, cOk c = true := by
 cases d with
 | mem c hc ok hk => exact ⟨c, hc, ok⟩
 | frm c hc ok hk w _ => exact ⟨c, hc, ok⟩
 | lnk c hc ok hk x w _ _ => exact ⟨c, hc, ok⟩
 | bth c hc ok hk w _ _ => exact ⟨c, hc, ok⟩
def IsLast (l : List Cr) (r : Rl) (w L : Int) : Prop := 0 ≤ L ∧ (L = 0 ∨ holdsC l r w L = true) ∧ ∀ d, L < d → holdsC l r w d = false
theorem IsLast.one {l : List Cr} {r : Rl} {w L L' : Int} (h : IsLast l r w L) (h' : IsLast l r w L') : L = L' := by
 obtain ⟨h1, h2, h3⟩ := h
 obtain ⟨h4, h5, h6⟩ := h'
 rcases Int.lt_trichotomy L L' with q | q | q
 ·rcases h5 with h5 | h5
  ·omega
  ·rw [h3 L' q] at h5; cases h5
 ·exact q
 ·rcases h2 with h2 | h2
  ·omega
  ·rw [h6 L q] at h2; cases h2
end Q
end Go.Proofs.Ytnoklfpnmopkpaa
