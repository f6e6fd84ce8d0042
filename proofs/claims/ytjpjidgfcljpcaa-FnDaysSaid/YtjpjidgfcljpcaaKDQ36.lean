/-
The facts that are lost on a day: by the reference and by the program.
-/
import Derived.Test.YtjpjidgfcljpcaaKDPDx13
import Derived.Test.YtjpjidgfcljpcaaKDQ29
namespace Go.Proofs.Ytjpjidgfcljpcaa
open Go.RowKit Go.Proofs.YtjpjidgfcljpcaaW.PrintWords Go.Proofs.YtjpjidgfcljpcaaW.PrintLast Go.Proofs.YtjpjidgfcljpcaaW.PrintMore Go.Proofs.Ytjpjidgfcljpcaa.PD
set_option linter.unusedVariables false
set_option linter.unusedSimpArgs false
namespace Q
def gone (was is : List Fc) : List Fc := was.filter fun x => !decide (x ∈ is)
def lostD (l : List Cr) (now : Int) : List Fc := if -1000000 ≤ now ∧ now ≤ 1000000 then gone (factsF (aliveC (now - 1) l)) (factsF (aliveC now l)) else []
theorem lostD_len (l : List Cr) (now : Int) : (lostD l now).length ≤ 144 := by
 unfold lostD
 split
 ·exact Nat.le_trans (List.length_filter_le _ _) (factsF_len _)
 ·exact Nat.zero_le _
theorem all_has (is : List Fc) (hi : is.length ≤ 1048576) : ∀ was : List Fc, ∃ K, ∀ k, K ≤ k → ∀ x ∈ was, impl_Fact_119.f k is x.f0.f0 x.f0.f1 x.f1 = some (decide (x ∈ is))
 | [] => ⟨0, fun _ _ x hx => by cases hx⟩
 | y :: ys => by
  obtain ⟨K, hK⟩ := all_has is hi ys
  obtain ⟨K2, hK2⟩ := containsF is y.f0.f0 y.f0.f1 y.f1 hi
  refine ⟨max K K2, fun k hk x hx => ?_⟩
  rcases List.mem_cons.1 hx with rfl | hx
  ·exact hK2 k (by omega)
  ·exact hK k (by omega) x hx
theorem gone_out (was is : List Fc) (hi : is.length ≤ 1048576) : Ev (fun k => impl_LostAt.out k is was) (gone was is) := by
 obtain ⟨K, hK⟩ := all_has is hi was
 refine ⟨K, fun k hk => ?_⟩
 have h := hK k hk
 show impl_LostAt.out k is was = some (gone was is)
 unfold impl_LostAt.out
 rw [if_pos (fun x hx => by rw [h x hx]; rfl)]
 congr 1
 refine List.filter_congr fun x hx => ?_
 unfold impl_LostAt.keep
 rw [h x hx]
 rfl
theorem impl_Lost (l : List Cr) (h : l.length ≤ 1048576) (now : Int) : Ev (fun k => impl_LostAt.f k l now) (lostD l now) := by
 unfold impl_LostAt.f lostD
 by_cases hn : -1000000 ≤ now ∧ now ≤ 1000000
 ·have f2 := factsF_len (aliveC now l)
  simp only [hn, and_self, ↓reduceIte]
  refine Ev.bind (impl_Still l h now) ?_
  refine Ev.bind (impl_Still l h (now - 1)) ?_
  exact gone_out _ _ (by omega)
 ·simp only [hn, ↓reduceIte]
  exact Ev.now _
end Q
end Go.Proofs.Ytjpjidgfcljpcaa
