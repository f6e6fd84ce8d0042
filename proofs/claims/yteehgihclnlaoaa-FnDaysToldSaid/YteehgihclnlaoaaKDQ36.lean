/-
The facts that are lost on a day: by the reference and by the program.
-/
import Derived.Test.YteehgihclnlaoaaKDPAx16
import Derived.Test.YteehgihclnlaoaaKDQ29
namespace Go.Proofs.Yteehgihclnlaoaa
open Go.RowKit Go.Proofs.YteehgihclnlaoaaW.PrintWords Go.Proofs.YteehgihclnlaoaaW.PrintLast Go.Proofs.YteehgihclnlaoaaW.PrintMore Go.Proofs.Yteehgihclnlaoaa.PA
set_option linter.unusedVariables false
set_option linter.unusedSimpArgs false
namespace Q
def gone (was is : List Fc) : List Fc := was.filter fun x => !decide (x ∈ is)
def lostD (l : List Cr) (now : Int) : List Fc := if -1000000 ≤ now ∧ now ≤ 1000000 then gone (factsF (aliveC (now - 1) l)) (factsF (aliveC now l)) else []
theorem lostD_len (l : List Cr) (now : Int) : (lostD l now).length ≤ 144 := by
 unfold lostD
 split
 ·exact Nat.le_trans (List.length_filter_le _ _) (factsF_len _)
 ·exact Nat.zero_le _
theorem gone_loop (was is : List Fc) (h : was.length ≤ 1048576) (hi : is.length ≤ 1048576) : Ev (fun k => spec_LostAt.l0 k [] was is 0) (gone was is) := by
 have key := Ev.up was.length (fun i (s : List Fc) k => spec_LostAt.l0 k s was is i) (fun i s => s ++ gone (was.drop i) is) (fun i s => s.length ≤ i) ?_ ?_ 0 [] (Nat.zero_le _) (by simp)
 ·exact key
 ·intro i s hl hs ih
  refine Ev.succ ?_
  simp only [spec_LostAt.l0, nat_lt, nat_0, hl, ↓reduceIte, rd_T54, getD_ _ hl, getDn_ _ hl, up_ (show i < 4611686018427387904 by omega), show s.length < 5864062014805 by omega]
  refine Ev.bind (spec_hasF is _ _ _ hi) ?_
  rw [List.drop_eq_getElem_cons hl]
  have e : (⟨⟨was[i].f0.f0, was[i].f0.f1⟩, was[i].f1⟩ : Fc) = was[i] := rfl
  by_cases hm : was[i] ∈ is
  ·have h2 := ih s (by omega)
   have e2 : gone (was[i] :: was.drop (i + 1)) is = gone (was.drop (i + 1)) is := by unfold gone; rw [List.filter_cons_of_neg (by simp [hm])]
   rw [e2]
   simp only [e, hm, decide_true, ↓reduceIte]
   exact h2
  ·have h2 := ih (s ++ [was[i]]) (by simp; omega)
   have e2 : gone (was[i] :: was.drop (i + 1)) is = was[i] :: gone (was.drop (i + 1)) is := by unfold gone; rw [List.filter_cons_of_pos (by simp [hm])]
   rw [e2]
   simp only [e, hm, decide_false, Bool.false_eq_true, ↓reduceIte]
   rw [List.append_assoc] at h2
   exact h2
 ·intro s _
  refine Ev.succ ?_
  simp only [spec_LostAt.l0, nat_lt, Nat.lt_irrefl, ↓reduceIte, List.drop_length]
  have e : s ++ gone [] is = s := by simp [gone]
  rw [e]
  exact Ev.now s
theorem spec_Lost (l : List Cr) (h : l.length ≤ 1048576) (now : Int) : Ev (fun k => spec_LostAt.f k l now) (lostD l now) := by
 unfold spec_LostAt.f lostD
 simp only [Option.bind_some, spec_in]
 by_cases hn : -1000000 ≤ now ∧ now ≤ 1000000
 ·have e : inB now (-1000000) 1000000 = true := by unfold inB; exact decide_eq_true hn
  have f1 := factsF_len (aliveC (now - 1) l)
  have f2 := factsF_len (aliveC now l)
  rw [e, if_pos hn, w64 (n := now - 1) (by omega) (by omega)]
  simp only [↓reduceIte]
  refine Ev.bind (spec_Still l h (now - 1)) ?_
  refine Ev.bind (spec_Still l h now) ?_
  exact gone_loop _ _ (by omega) (by omega)
 ·have e : inB now (-1000000) 1000000 = false := by unfold inB; exact decide_eq_false hn
  rw [e, if_neg hn]
  simp only [Bool.false_eq_true, ↓reduceIte]
  exact Ev.now _
theorem all_has (is : List Fc) (hi : is.length ≤ 1048576) : ∀ was : List Fc, ∃ K, ∀ k, K ≤ k → ∀ x ∈ was, impl_Fact_39.f k is x.f0.f0 x.f0.f1 x.f1 = some (decide (x ∈ is))
 | [] => ⟨0, fun _ _ x hx => by cases hx⟩
 | y :: ys => by
  obtain ⟨K, hK⟩ := all_has is hi ys
  obtain ⟨K2, hK2⟩ := containsF is y.f0.f0 y.f0.f1 y.f1 hi
  refine ⟨max K K2, fun k hk x hx => ?_⟩
  rcases List.mem_cons.1 hx with rfl | hx
  ·exact hK2 k (by omega)
  ·exact hK k (by omega) x hx
theorem gone_out (was is : List Fc) (hi : is.length ≤ 1048576) : Ev (fun k => impl_LostAt.out k is was) (gone was is) := by
 obtain ⟨K, hK⟩ := all_has is hi was
 refine ⟨K, fun k hk => ?_⟩
 have h := hK k hk
 show impl_LostAt.out k is was = some (gone was is)
 unfold impl_LostAt.out
 rw [if_pos (fun x hx => by rw [h x hx]; rfl)]
 congr 1
 refine List.filter_congr fun x hx => ?_
 unfold impl_LostAt.keep
 rw [h x hx]
 rfl
theorem impl_Lost (l : List Cr) (h : l.length ≤ 1048576) (now : Int) : Ev (fun k => impl_LostAt.f k l now) (lostD l now) := by
 unfold impl_LostAt.f lostD
 by_cases hn : -1000000 ≤ now ∧ now ≤ 1000000
 ·have f2 := factsF_len (aliveC now l)
  simp only [hn, and_self, ↓reduceIte]
  refine Ev.bind (impl_Still l h now) ?_
  refine Ev.bind (impl_Still l h (now - 1)) ?_
  exact gone_out _ _ (by omega)
 ·simp only [hn, ↓reduceIte]
  exact Ev.now _
end Q
end Go.Proofs.Yteehgihclnlaoaa
