/-
Lists of words and of facts as the laws hand them on, compare and mark them; who is alive; members, and what holds at a time.
-/
import Derived.Test.YteehgihclnlaoaaKDPAx15
import Derived.Test.YteehgihclnlaoaaKDQ14
namespace Go.Proofs.Yteehgihclnlaoaa
open Go.RowKit Go.Proofs.YteehgihclnlaoaaW.PrintWords Go.Proofs.YteehgihclnlaoaaW.PrintLast Go.Proofs.YteehgihclnlaoaaW.PrintMore Go.Proofs.Yteehgihclnlaoaa.PA
set_option linter.unusedVariables false
set_option linter.unusedSimpArgs false
namespace Q
def aliveC (now : Int) (l : List Cr) : List Cr := l.filter fun c => cOk c && decide (c.f5 ≥ now)
theorem aliveC_len (now : Int) (l : List Cr) : (aliveC now l).length ≤ l.length := List.length_filter_le _ _
theorem spec_AliveC (l : List Cr) (now : Int) (h : l.length ≤ 1048576) : Ev (fun k => spec_Alive.f k l now) (aliveC now l) := by
 unfold spec_Alive.f
 have key := Ev.up l.length (fun i (s : List Cr) k => spec_Alive.l0 k l now s i) (fun i s => s ++ aliveC now (l.drop i)) (fun i s => s.length ≤ i) ?_ ?_ 0 [] (Nat.zero_le _) (by simp)
 ·exact key
 ·intro i s hi hs ih
  refine Ev.succ ?_
  simp only [spec_Alive.l0, nat_lt, nat_0, hi, ↓reduceIte, rd_T48, getD_ _ hi, getDn_ _ hi, up_ (show i < 4611686018427387904 by omega), show s.length < 1759218604441 by omega]
  refine Ev.bind (spec_CredOk _ _ _ _ _ _ _ _ _ _) ?_
  change Ev (fun k => if cOk l[i] = true then _ else _) _
  rw [List.drop_eq_getElem_cons hi]
  unfold aliveC at ih ⊢
  by_cases hb : (cOk l[i] && decide (l[i].f5 ≥ now)) = true
  ·rw [List.filter_cons_of_pos (p := fun c : Cr => cOk c && decide (c.f5 ≥ now)) hb]
   rw [Bool.and_eq_true, decide_eq_true_eq] at hb
   simp only [hb.1, hb.2, ↓reduceIte]
   have h2 := ih (s ++ [l[i]]) (by simp; omega)
   rw [List.append_assoc] at h2
   exact h2
  ·rw [List.filter_cons_of_neg (p := fun c : Cr => cOk c && decide (c.f5 ≥ now)) hb]
   have h2 := ih s (by omega)
   cases hc : cOk l[i]
   ·simpa using h2
   ·rw [hc, Bool.true_and, decide_eq_true_eq] at hb
    simp only [hb, ↓reduceIte]
    exact h2
 ·intro s _
  refine Ev.succ ?_
  simp only [spec_Alive.l0, nat_lt, Nat.lt_irrefl, ↓reduceIte, List.drop_length]
  simpa [aliveC] using Ev.now s
theorem impl_AliveC (l : List Cr) (now : Int) (h : l.length ≤ 1048576) : Ev (fun k => impl_Alive.f k l now) (aliveC now l) := by
 unfold impl_Alive.f
 have key := Ev.up l.length (fun i (s : List Cr) k => impl_Alive.l0 k now s l l.length i) (fun i s => s ++ aliveC now (l.drop i)) (fun i s => s.length ≤ i) ?_ ?_ 0 [] (Nat.zero_le _) (by simp)
 ·exact key
 ·intro i s hi hs ih
  refine Ev.succ ?_
  simp only [impl_Alive.l0, nat_lt, nat_0, hi, ↓reduceIte, rd_T48, getD_ _ hi, getDn_ _ hi, up_ (show i < 4611686018427387904 by omega), show s.length < 1759218604441 by omega]
  refine Ev.bind (impl_CredOk _ _ _ _ _ _ _ _ _ _) ?_
  change Ev (fun k => if cOk l[i] = true then _ else _) _
  rw [List.drop_eq_getElem_cons hi]
  unfold aliveC at ih ⊢
  by_cases hb : (cOk l[i] && decide (l[i].f5 ≥ now)) = true
  ·rw [List.filter_cons_of_pos (p := fun c : Cr => cOk c && decide (c.f5 ≥ now)) hb]
   rw [Bool.and_eq_true, decide_eq_true_eq] at hb
   simp only [hb.1, hb.2, ↓reduceIte]
   have h2 := ih (s ++ [l[i]]) (by simp; omega)
   rw [List.append_assoc] at h2
   exact h2
  ·rw [List.filter_cons_of_neg (p := fun c : Cr => cOk c && decide (c.f5 ≥ now)) hb]
   have h2 := ih s (by omega)
   cases hc : cOk l[i]
   ·simpa using h2
   ·rw [hc, Bool.true_and, decide_eq_true_eq] at hb
    simp only [hb, ↓reduceIte]
    exact h2
 ·intro s _
  refine Ev.succ ?_
  simp only [impl_Alive.l0, nat_lt, Nat.lt_irrefl, ↓reduceIte, List.drop_length]
  simpa [aliveC] using Ev.now s
def memF (l : List Cr) (r : Rl) (w : Int) : Bool := decide ((⟨r, w⟩ : Fc) ∈ factsF l)
theorem spec_Mem (l : List Cr) (h : l.length ≤ 1048576) (a b w : Int) : Ev (fun k => spec_IsMember.f k l a b w) (memF l ⟨a, b⟩ w) := by
 unfold spec_IsMember.f
 refine Ev.bind (spec_Facts l h) ?_
 have := factsF_len l
 refine Ev.bind (spec_hasF (factsF l) a b w (by omega)) ?_
 exact Ev.now _
theorem impl_Mem (l : List Cr) (h : l.length ≤ 1048576) (a b w : Int) : Ev (fun k => impl_IsMember.f k l a b w) (memF l ⟨a, b⟩ w) := by
 unfold impl_IsMember.f
 refine Ev.bind (impl_Facts l h) ?_
 have := factsF_len l
 refine Ev.bind (containsF (factsF l) a b w (by omega)) ?_
 exact Ev.now _
def holdsC (l : List Cr) (r : Rl) (w now : Int) : Bool := memF (aliveC now l) r w
theorem spec_Holds (l : List Cr) (h : l.length ≤ 1048576) (a b w now : Int) : Ev (fun k => spec_HoldsAt.f k l a b w now) (holdsC l ⟨a, b⟩ w now) := by
 unfold spec_HoldsAt.f
 refine Ev.bind (spec_AliveC l now h) ?_
 have := aliveC_len now l
 refine Ev.bind (spec_Mem (aliveC now l) (by omega) a b w) ?_
 exact Ev.now _
theorem impl_Holds (l : List Cr) (h : l.length ≤ 1048576) (a b w now : Int) : Ev (fun k => impl_HoldsAt.f k l a b w now) (holdsC l ⟨a, b⟩ w now) := by
 unfold impl_HoldsAt.f
 refine Ev.bind (impl_AliveC l now h) ?_
 have := aliveC_len now l
 refine Ev.bind (impl_Mem (aliveC now l) (by omega) a b w) ?_
 exact Ev.now _
theorem spec_Still (l : List Cr) (h : l.length ≤ 1048576) (now : Int) : Ev (fun k => spec_StillAt.f k l now) (factsF (aliveC now l)) := by
 unfold spec_StillAt.f
 refine Ev.bind (spec_AliveC l now h) ?_
 have := aliveC_len now l
 refine Ev.bind (spec_Facts (aliveC now l) (by omega)) ?_
 exact Ev.now _
theorem impl_Still (l : List Cr) (h : l.length ≤ 1048576) (now : Int) : Ev (fun k => impl_StillAt.f k l now) (factsF (aliveC now l)) := by
 unfold impl_StillAt.f
 refine Ev.bind (impl_AliveC l now h) ?_
 have := aliveC_len now l
 refine Ev.bind (impl_Facts (aliveC now l) (by omega)) ?_
 exact Ev.now _
end Q
end Go.Proofs.Yteehgihclnlaoaa
