/-
Lists of words and of facts as the laws hand them on, compare and mark them; who is alive; members, and what holds at a time.
-/
import Derived.Test.YteofimccoadmeaaGreatKWPAx18
import Derived.Test.YteofimccoadmeaaGreatKWPAx21
import Derived.Test.YteofimccoadmeaaGreatKWQ13
namespace Go.Proofs.YteofimccoadmeaaGreat
open Go.RowKit Go.Proofs.YteofimccoadmeaaGreatW.PrintWords Go.Proofs.YteofimccoadmeaaGreatW.PrintLast Go.Proofs.YteofimccoadmeaaGreatW.PrintMore Go.Proofs.YteofimccoadmeaaGreat.PA
set_option linter.unusedVariables false
set_option linter.unusedSimpArgs false
namespace Q
abbrev LCr := S88
def toC (x : LCr) : Cr := ⟨x.f0, ⟨x.f1.f0, x.f1.f1⟩, x.f2, ⟨x.f3.f0, x.f3.f1⟩, ⟨x.f4.f0, x.f4.f1⟩, x.f5, x.f6⟩
theorem toCreds (l : List LCr) (h : l.length ≤ 1048576) : Ev (fun k => laws_toCredS.f k l) (l.map toC) := by
 unfold laws_toCredS.f
 simp only [nat_0, ↓reduceIte, Int.toNat_natCast, show l.length ≤ 3518437208883 by omega]
 rw [← fill_0 l toC z83]
 refine Ev.up0 l.length (fun i k => laws_toCredS.l0 k l ((l.take i).map toC ++ List.replicate (l.length - i) z83) i) (fun _ => l.map toC) ?_ ?_ 0 (Nat.zero_le _)
 ·intro i hi hn
  refine Ev.succ ?_
  simp only [laws_toCredS.l0, nat_lt, nat_0, hi, ↓reduceIte, rd_T88, getD_ _ hi, getDn_ _ hi, laws_toCred.f, laws_toRole.f, Option.bind_some, fill_len l toC z83 i (by omega), Int.toNat_natCast, up_ (show i < 4611686018427387904 by omega)]
  have e := fill_ l toC z83 i hi
  unfold toC at e hn ⊢
  rw [e]
  exact hn
 ·refine Ev.succ ?_
  simp only [laws_toCredS.l0, nat_lt, Nat.lt_irrefl, ↓reduceIte]
  rw [fill_n]
  exact Ev.now _
theorem eqRoleR (a b : Int) : laws_eqRole.f a b a b = some true := by unfold laws_eqRole.f; simp
theorem eqCreds (l : List Cr) (h : l.length ≤ 1048576) : Ev (fun k => laws_eqCredS.f k l l) true := by
 unfold laws_eqCredS.f
 simp only [↓reduceIte]
 refine Ev.up0 l.length (fun i k => laws_eqCredS.l0 k l l i) (fun _ => true) ?_ ?_ 0 (Nat.zero_le _)
 ·intro i hi hn
  refine Ev.succ ?_
  simp only [laws_eqCredS.l0, nat_lt, nat_0, hi, ↓reduceIte, laws_eqCred.f, eqRoleR, Option.bind_some, up_ (show i < 4611686018427387904 by omega)]
  exact hn
 ·refine Ev.succ ?_
  simp only [laws_eqCredS.l0, nat_lt, Nat.lt_irrefl, ↓reduceIte]
  exact Ev.now _
theorem eqFacts (l : List Fc) (h : l.length ≤ 1048576) : Ev (fun k => laws_eqFactS.f k l l) true := by
 unfold laws_eqFactS.f
 simp only [↓reduceIte]
 refine Ev.up0 l.length (fun i k => laws_eqFactS.l0 k l l i) (fun _ => true) ?_ ?_ 0 (Nat.zero_le _)
 ·intro i hi hn
  refine Ev.succ ?_
  simp only [laws_eqFactS.l0, nat_lt, nat_0, hi, ↓reduceIte, laws_eqFact.f, eqRoleR, Option.bind_some, up_ (show i < 4611686018427387904 by omega)]
  exact hn
 ·refine Ev.succ ?_
  simp only [laws_eqFactS.l0, nat_lt, Nat.lt_irrefl, ↓reduceIte]
  exact Ev.now _
def aliveC (now : Int) (l : List Cr) : List Cr := l.filter fun c => cOk c && decide (c.f5 ≥ now)
theorem spec_AliveC (l : List Cr) (now : Int) (h : l.length ≤ 1048576) : Ev (fun k => spec_Alive.f k l now) (aliveC now l) := by
 unfold spec_Alive.f
 have key := Ev.up l.length (fun i (s : List Cr) k => spec_Alive.l0 k l now s i) (fun i s => s ++ aliveC now (l.drop i)) (fun i s => s.length ≤ i) ?_ ?_ 0 [] (Nat.zero_le _) (by simp)
 ·exact key
 ·intro i s hi hs ih
  refine Ev.succ ?_
  simp only [spec_Alive.l0, nat_lt, nat_0, hi, ↓reduceIte, rd_T83, getD_ _ hi, getDn_ _ hi, up_ (show i < 4611686018427387904 by omega), show s.length < 1759218604441 by omega]
  refine Ev.bind (spec_CredOk _ _ _ _ _ _ _ _ _ _) ?_
  change Ev (fun k => if cOk l[i] = true then _ else _) _
  rw [List.drop_eq_getElem_cons hi]
  unfold aliveC at ih ⊢
  by_cases hb : (cOk l[i] && decide (l[i].f5 ≥ now)) = true
  ·rw [List.filter_cons_of_pos (p := fun c : Cr => cOk c && decide (c.f5 ≥ now)) hb]
   rw [Bool.and_eq_true, decide_eq_true_eq] at hb
   simp only [hb.1, hb.2, ↓reduceIte]
   have h2 := ih (s ++ [l[i]]) (by simp; omega)
   rw [List.append_assoc] at h2
   exact h2
  ·rw [List.filter_cons_of_neg (p := fun c : Cr => cOk c && decide (c.f5 ≥ now)) hb]
   have h2 := ih s (by omega)
   cases hc : cOk l[i]
   ·simpa using h2
   ·rw [hc, Bool.true_and, decide_eq_true_eq] at hb
    simp only [hb, ↓reduceIte]
    exact h2
 ·intro s _
  refine Ev.succ ?_
  simp only [spec_Alive.l0, nat_lt, Nat.lt_irrefl, ↓reduceIte, List.drop_length]
  simpa [aliveC] using Ev.now s
theorem impl_AliveC (l : List Cr) (now : Int) (h : l.length ≤ 1048576) : Ev (fun k => impl_Alive.f k l now) (aliveC now l) := by
 unfold impl_Alive.f
 have key := Ev.up l.length (fun i (s : List Cr) k => impl_Alive.l0 k now s l l.length i) (fun i s => s ++ aliveC now (l.drop i)) (fun i s => s.length ≤ i) ?_ ?_ 0 [] (Nat.zero_le _) (by simp)
 ·exact key
 ·intro i s hi hs ih
  refine Ev.succ ?_
  simp only [impl_Alive.l0, nat_lt, nat_0, hi, ↓reduceIte, rd_T83, getD_ _ hi, getDn_ _ hi, up_ (show i < 4611686018427387904 by omega), show s.length < 1759218604441 by omega]
  refine Ev.bind (impl_CredOk _ _ _ _ _ _ _ _ _ _) ?_
  change Ev (fun k => if cOk l[i] = true then _ else _) _
  rw [List.drop_eq_getElem_cons hi]
  unfold aliveC at ih ⊢
  by_cases hb : (cOk l[i] && decide (l[i].f5 ≥ now)) = true
  ·rw [List.filter_cons_of_pos (p := fun c : Cr => cOk c && decide (c.f5 ≥ now)) hb]
   rw [Bool.and_eq_true, decide_eq_true_eq] at hb
   simp only [hb.1, hb.2, ↓reduceIte]
   have h2 := ih (s ++ [l[i]]) (by simp; omega)
   rw [List.append_assoc] at h2
   exact h2
  ·rw [List.filter_cons_of_neg (p := fun c : Cr => cOk c && decide (c.f5 ≥ now)) hb]
   have h2 := ih s (by omega)
   cases hc : cOk l[i]
   ·simpa using h2
   ·rw [hc, Bool.true_and, decide_eq_true_eq] at hb
    simp only [hb, ↓reduceIte]
    exact h2
 ·intro s _
  refine Ev.succ ?_
  simp only [impl_Alive.l0, nat_lt, Nat.lt_irrefl, ↓reduceIte, List.drop_length]
  simpa [aliveC] using Ev.now s
end Q
end Go.Proofs.YteofimccoadmeaaGreat
