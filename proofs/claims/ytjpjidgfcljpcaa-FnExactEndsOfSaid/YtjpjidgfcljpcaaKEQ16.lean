/-
To be one of the facts of a list of words: by rules. More words, no fewer facts; what holds on a day held before.
-/
import Derived.Test.YtjpjidgfcljpcaaKEQ15
namespace Go.Proofs.Ytjpjidgfcljpcaa
open Go.RowKit Go.Proofs.YtjpjidgfcljpcaaW.PrintWords Go.Proofs.YtjpjidgfcljpcaaW.PrintLast Go.Proofs.YtjpjidgfcljpcaaW.PrintMore Go.Proofs.Ytjpjidgfcljpcaa.PA
set_option linter.unusedVariables false
set_option linter.unusedSimpArgs false
namespace Q
inductive Der (list : List Cr) : Fc → Prop
 | mem (c : Cr) (h : c ∈ list) (ok : cOk c = true) (hk : c.f0 = 1) : Der list ⟨c.f1, c.f2⟩
 | frm (c : Cr) (h : c ∈ list) (ok : cOk c = true) (hk : c.f0 = 2) (w : Int) (d : Der list ⟨c.f3, w⟩) : Der list ⟨c.f1, w⟩
 | lnk (c : Cr) (h : c ∈ list) (ok : cOk c = true) (hk : c.f0 = 3) (x w : Int) (d1 : Der list ⟨c.f3, x⟩) (d2 : Der list ⟨⟨x, c.f4.f1⟩, w⟩) : Der list ⟨c.f1, w⟩
 | bth (c : Cr) (h : c ∈ list) (ok : cOk c = true) (hk : c.f0 = 4) (w : Int) (d1 : Der list ⟨c.f3, w⟩) (d2 : Der list ⟨c.f4, w⟩) : Der list ⟨c.f1, w⟩
theorem Der.some {l : List Cr} {f : Fc} (d : Der l f) : ∃ c ∈ l, cOk c = true := by
 cases d with
 | mem c hc ok hk => exact ⟨c, hc, ok⟩
 | frm c hc ok hk w _ => exact ⟨c, hc, ok⟩
 | lnk c hc ok hk x w _ _ => exact ⟨c, hc, ok⟩
 | bth c hc ok hk w _ _ => exact ⟨c, hc, ok⟩
end Q
end Go.Proofs.Ytjpjidgfcljpcaa
