/-
Lists of words and of facts as the laws hand them on, compare and mark them; who is alive; members, and what holds at a time.
-/
import Derived.Test.YtppdmcimddhbaaaKTPHx12
import Derived.Test.YtppdmcimddhbaaaKTPHx4
import Derived.Test.YtppdmcimddhbaaaKTPHx5
import Derived.Test.YtppdmcimddhbaaaKTQ14
namespace Go.Proofs.Ytppdmcimddhbaaa
open Go.RowKit Go.Proofs.YtppdmcimddhbaaaW.PrintWords Go.Proofs.YtppdmcimddhbaaaW.PrintLast Go.Proofs.YtppdmcimddhbaaaW.PrintMore Go.Proofs.Ytppdmcimddhbaaa.PH
set_option linter.unusedVariables false
set_option linter.unusedSimpArgs false
namespace Q
abbrev LCr := S111
def toC (x : LCr) : Cr := ⟨x.f0, ⟨x.f1.f0, x.f1.f1⟩, x.f2, ⟨x.f3.f0, x.f3.f1⟩, ⟨x.f4.f0, x.f4.f1⟩, x.f5, x.f6⟩
theorem szCreds (l : List LCr) (h : l.length ≤ 9223372036854775807) : laws_szCredS.f l 1048576 = some (if l.length ≤ 1048576 then (1048576 : Int) - l.length else -1) := by
 unfold laws_szCredS.f
 rw [w64 (n := (1048576 : Int) - (l.length : Int)) (by omega) (by omega)]
 by_cases h1 : l.length ≤ 1048576
 ·simp only [show ¬ ((1048576 : Int) - (l.length : Int) < 0) by omega, h1, ↓reduceIte]
 ·simp only [show ((1048576 : Int) - (l.length : Int) < 0) by omega, h1, ↓reduceIte]
theorem toCreds (l : List LCr) (h : l.length ≤ 1048576) : Ev (fun k => laws_toCredS.f k l) (l.map toC) := by
 unfold laws_toCredS.f
 simp only [nat_0, ↓reduceIte, Int.toNat_natCast, show l.length ≤ 3518437208883 by omega]
 rw [← fill_0 l toC z46]
 refine Ev.up0 l.length (fun i k => laws_toCredS.l0 k l ((l.take i).map toC ++ List.replicate (l.length - i) z46) i) (fun _ => l.map toC) ?_ ?_ 0 (Nat.zero_le _)
 ·intro i hi hn
  refine Ev.succ ?_
  simp only [laws_toCredS.l0, nat_lt, nat_0, hi, ↓reduceIte, rd_T111, getD_ _ hi, getDn_ _ hi, laws_toCred.f, laws_toRole.f, Option.bind_some, fill_len l toC z46 i (by omega), Int.toNat_natCast, up_ (show i < 4611686018427387904 by omega)]
  have e := fill_ l toC z46 i hi
  unfold toC at e hn ⊢
  rw [e]
  exact hn
 ·refine Ev.succ ?_
  simp only [laws_toCredS.l0, nat_lt, Nat.lt_irrefl, ↓reduceIte]
  rw [fill_n]
  exact Ev.now _
theorem eqRoleR (a b : Int) : laws_eqRole.f a b a b = some true := by unfold laws_eqRole.f; simp
theorem eqCreds (l : List Cr) (h : l.length ≤ 1048576) : Ev (fun k => laws_eqCredS.f k l l) true := by
 unfold laws_eqCredS.f
 simp only [↓reduceIte]
 refine Ev.up0 l.length (fun i k => laws_eqCredS.l0 k l l i) (fun _ => true) ?_ ?_ 0 (Nat.zero_le _)
 ·intro i hi hn
  refine Ev.succ ?_
  simp only [laws_eqCredS.l0, nat_lt, nat_0, hi, ↓reduceIte, laws_eqCred.f, eqRoleR, Option.bind_some, up_ (show i < 4611686018427387904 by omega)]
  exact hn
 ·refine Ev.succ ?_
  simp only [laws_eqCredS.l0, nat_lt, Nat.lt_irrefl, ↓reduceIte]
  exact Ev.now _
theorem eqFacts (l : List Fc) (h : l.length ≤ 1048576) : Ev (fun k => laws_eqFactS.f k l l) true := by
 unfold laws_eqFactS.f
 simp only [↓reduceIte]
 refine Ev.up0 l.length (fun i k => laws_eqFactS.l0 k l l i) (fun _ => true) ?_ ?_ 0 (Nat.zero_le _)
 ·intro i hi hn
  refine Ev.succ ?_
  simp only [laws_eqFactS.l0, nat_lt, nat_0, hi, ↓reduceIte, laws_eqFact.f, eqRoleR, Option.bind_some, up_ (show i < 4611686018427387904 by omega)]
  exact hn
 ·refine Ev.succ ?_
  simp only [laws_eqFactS.l0, nat_lt, Nat.lt_irrefl, ↓reduceIte]
  exact Ev.now _
theorem rdset {α : Type} (l : List α) (i : Nat) (h : i < l.length) (x z : α) : (l.set i x).getD i z = x := by simp [h]
theorem setset {α : Type} (l : List α) (i : Nat) (x y : α) : (l.set i x).set i y = l.set i y := by simp
def marksC : Nat → Int → List Cr
 | 0, _ => []
 | n + 1, k => ⟨k, ⟨k + 1, k + 2⟩, k + 3, ⟨k + 4, k + 5⟩, ⟨k + 6, k + 7⟩, k + 8, k + 9⟩ :: marksC n (k + 10)
theorem markCreds_ (n : Nat) : ∀ (l pre : List Cr) (m : Int), l.length = n → pre.length + n ≤ 1048576 → 0 ≤ m → m + 10 * n ≤ 4611686018427387904 →
  Ev (fun k => laws_markCredS.l0 k (pre ++ l) m pre.length) (m + 10 * n, pre ++ marksC n m) := by
 induction n with
 | zero =>
  intro l pre m h1 h2 h3 h4
  obtain rfl := List.length_eq_zero_iff.1 h1
  refine Ev.succ ?_
  simp only [laws_markCredS.l0, List.append_nil, Int.lt_irrefl, ↓reduceIte, marksC]
  simpa using Ev.now (m, pre)
 | succ n ih =>
  intro l pre m h1 h2 h3 h4
  obtain ⟨x, xs, rfl⟩ : ∃ x xs, l = x :: xs := by cases l with | nil => simp at h1 | cons x xs => exact ⟨x, xs, rfl⟩
  refine Ev.succ ?_
  have hi : pre.length < (pre ++ x :: xs).length := by simp
  simp only [laws_markCredS.l0, nat_lt, nat_0, hi, ↓reduceIte, Option.bind_some, rd_T46, Int.toNat_natCast, rdset _ _ hi, setset, up_ (show pre.length < 4611686018427387904 by omega)]
  rw [w64 (n := m + 1) (by omega) (by omega), w64 (n := m + 1 + 1) (by omega) (by omega), w64 (n := m + 1 + 1 + 1) (by omega) (by omega), w64 (n := m + 1 + 1 + 1 + 1) (by omega) (by omega), w64 (n := m + 1 + 1 + 1 + 1 + 1) (by omega) (by omega), w64 (n := m + 1 + 1 + 1 + 1 + 1 + 1) (by omega) (by omega), w64 (n := m + 1 + 1 + 1 + 1 + 1 + 1 + 1) (by omega) (by omega), w64 (n := m + 1 + 1 + 1 + 1 + 1 + 1 + 1 + 1) (by omega) (by omega), w64 (n := m + 1 + 1 + 1 + 1 + 1 + 1 + 1 + 1 + 1) (by omega) (by omega), w64 (n := m + 1 + 1 + 1 + 1 + 1 + 1 + 1 + 1 + 1 + 1) (by omega) (by omega)]
  have e0 : m + 1 + 1 = m + 2 ∧ m + 2 + 1 = m + 3 ∧ m + 3 + 1 = m + 4 ∧ m + 4 + 1 = m + 5 ∧ m + 5 + 1 = m + 6 ∧ m + 6 + 1 = m + 7 ∧ m + 7 + 1 = m + 8 ∧ m + 8 + 1 = m + 9 ∧ m + 9 + 1 = m + 10 := by omega
  obtain ⟨e1, e2, e3, e4, e5, e6, e7, e8, e9⟩ := e0
  rw [e1, e2, e3, e4, e5, e6, e7, e8, e9]
  have := ih xs (pre ++ [⟨m, ⟨m + 1, m + 2⟩, m + 3, ⟨m + 4, m + 5⟩, ⟨m + 6, m + 7⟩, m + 8, m + 9⟩]) (m + 10) (by simpa using h1) (by simp; omega) (by omega) (by omega)
  have q1 : (pre ++ x :: xs).set pre.length (⟨m, ⟨m + 1, m + 2⟩, m + 3, ⟨m + 4, m + 5⟩, ⟨m + 6, m + 7⟩, m + 8, m + 9⟩ : Cr) = (pre ++ [⟨m, ⟨m + 1, m + 2⟩, m + 3, ⟨m + 4, m + 5⟩, ⟨m + 6, m + 7⟩, m + 8, m + 9⟩]) ++ xs := by simp
  rw [q1]
  simp only [List.length_append, List.length_singleton] at this
  have q2 : (m + 10 * ((n + 1 : Nat) : Int), pre ++ marksC (n + 1) m) = (m + 10 + 10 * (n : Int), pre ++ [(⟨m, ⟨m + 1, m + 2⟩, m + 3, ⟨m + 4, m + 5⟩, ⟨m + 6, m + 7⟩, m + 8, m + 9⟩ : Cr)] ++ marksC n (m + 10)) := by
   simp [marksC]; omega
  rw [q2]
  exact this
theorem markCreds (l : List Cr) (h : l.length ≤ 1048576) : Ev (fun k => laws_markCredS.f k l 1) (1 + 10 * (l.length : Int), marksC l.length 1) := by
 have := markCreds_ l.length l [] 1 rfl (by simpa using h) (by omega) (by omega)
 simpa [laws_markCredS.f] using this
def marksF : Nat → Int → List Fc
 | 0, _ => []
 | n + 1, k => ⟨⟨k, k + 1⟩, k + 2⟩ :: marksF n (k + 3)
theorem markFacts_ (n : Nat) : ∀ (l pre : List Fc) (m : Int), l.length = n → pre.length + n ≤ 1048576 → 0 ≤ m → m + 3 * n ≤ 4611686018427387904 →
  Ev (fun k => laws_markFactS.l0 k (pre ++ l) m pre.length) (m + 3 * n, pre ++ marksF n m) := by
 induction n with
 | zero =>
  intro l pre m h1 h2 h3 h4
  obtain rfl := List.length_eq_zero_iff.1 h1
  refine Ev.succ ?_
  simp only [laws_markFactS.l0, List.append_nil, Int.lt_irrefl, ↓reduceIte, marksF]
  simpa using Ev.now (m, pre)
 | succ n ih =>
  intro l pre m h1 h2 h3 h4
  obtain ⟨x, xs, rfl⟩ : ∃ x xs, l = x :: xs := by cases l with | nil => simp at h1 | cons x xs => exact ⟨x, xs, rfl⟩
  refine Ev.succ ?_
  have hi : pre.length < (pre ++ x :: xs).length := by simp
  simp only [laws_markFactS.l0, nat_lt, nat_0, hi, ↓reduceIte, Option.bind_some, rd_T29, Int.toNat_natCast, rdset _ _ hi, setset, up_ (show pre.length < 4611686018427387904 by omega)]
  rw [w64 (n := m + 1) (by omega) (by omega), w64 (n := m + 1 + 1) (by omega) (by omega), w64 (n := m + 1 + 1 + 1) (by omega) (by omega)]
  have e0 : m + 1 + 1 = m + 2 ∧ m + 2 + 1 = m + 3 := by omega
  rw [e0.1, e0.2]
  have := ih xs (pre ++ [⟨⟨m, m + 1⟩, m + 2⟩]) (m + 3) (by simpa using h1) (by simp; omega) (by omega) (by omega)
  have q1 : (pre ++ x :: xs).set pre.length (⟨⟨m, m + 1⟩, m + 2⟩ : Fc) = (pre ++ [⟨⟨m, m + 1⟩, m + 2⟩]) ++ xs := by simp
  rw [q1]
  simp only [List.length_append, List.length_singleton] at this
  have q2 : (m + 3 * ((n + 1 : Nat) : Int), pre ++ marksF (n + 1) m) = (m + 3 + 3 * (n : Int), pre ++ [(⟨⟨m, m + 1⟩, m + 2⟩ : Fc)] ++ marksF n (m + 3)) := by
   simp [marksF]; omega
  rw [q2]
  exact this
theorem markFacts (l : List Fc) (h : l.length ≤ 1048576) : Ev (fun k => laws_markFactS.f k l 1) (1 + 3 * (l.length : Int), marksF l.length 1) := by
 have := markFacts_ l.length l [] 1 rfl (by simpa using h) (by omega) (by omega)
 simpa [laws_markFactS.f] using this
theorem heldFacts_ (n : Nat) : ∀ (pre : List Fc) (m : Int), pre.length + n ≤ 1048576 → 0 ≤ m → m + 3 * n ≤ 4611686018427387904 →
  Ev (fun k => laws_heldFactS.l0 k (pre ++ marksF n m) m pre.length) (m + 3 * n) := by
 induction n with
 | zero =>
  intro pre m h2 h3 h4
  refine Ev.succ ?_
  simp only [laws_heldFactS.l0, marksF, List.append_nil, Int.lt_irrefl, ↓reduceIte]
  simpa using Ev.now m
 | succ n ih =>
  intro pre m h2 h3 h4
  refine Ev.succ ?_
  have hi : pre.length < (pre ++ marksF (n + 1) m).length := by simp [marksF]
  have e0 : (pre ++ marksF (n + 1) m).getD pre.length z29 = ⟨⟨m, m + 1⟩, m + 2⟩ := by simp [marksF]
  simp only [laws_heldFactS.l0, nat_lt, nat_0, hi, ↓reduceIte, rd_T29, Int.toNat_natCast, e0, up_ (show pre.length < 4611686018427387904 by omega)]
  rw [w64 (n := m + 1) (by omega) (by omega), w64 (n := m + 1 + 1) (by omega) (by omega), w64 (n := m + 1 + 1 + 1) (by omega) (by omega)]
  have q0 : m + 1 + 1 = m + 2 ∧ m + 2 + 1 = m + 3 := by omega
  rw [q0.1, q0.2]
  simp only [↓reduceIte]
  have := ih (pre ++ [⟨⟨m, m + 1⟩, m + 2⟩]) (m + 3) (by simp; omega) (by omega) (by omega)
  simp only [List.length_append, List.length_singleton] at this
  have q2 : m + 3 * ((n + 1 : Nat) : Int) = m + 3 + 3 * (n : Int) := by omega
  have q3 : pre ++ marksF (n + 1) m = pre ++ [(⟨⟨m, m + 1⟩, m + 2⟩ : Fc)] ++ marksF n (m + 3) := by simp [marksF]
  rw [q2, q3]
  exact this
theorem heldFacts (n : Nat) (h : n ≤ 1048576) : Ev (fun k => laws_heldFactS.f k (marksF n 1) 1) (1 + 3 * (n : Int)) := by
 have := heldFacts_ n [] 1 (by simpa using h) (by omega) (by omega)
 simpa [laws_heldFactS.f] using this
def aliveC (now : Int) (l : List Cr) : List Cr := l.filter fun c => cOk c && decide (c.f5 ≥ now)
theorem aliveC_len (now : Int) (l : List Cr) : (aliveC now l).length ≤ l.length := List.length_filter_le _ _
theorem spec_AliveC (l : List Cr) (now : Int) (h : l.length ≤ 1048576) : Ev (fun k => spec_Alive.f k l now) (aliveC now l) := by
 unfold spec_Alive.f
 have key := Ev.up l.length (fun i (s : List Cr) k => spec_Alive.l0 k l now s i) (fun i s => s ++ aliveC now (l.drop i)) (fun i s => s.length ≤ i) ?_ ?_ 0 [] (Nat.zero_le _) (by simp)
 ·exact key
 ·intro i s hi hs ih
  refine Ev.succ ?_
  simp only [spec_Alive.l0, nat_lt, nat_0, hi, ↓reduceIte, rd_T46, getD_ _ hi, getDn_ _ hi, up_ (show i < 4611686018427387904 by omega), show s.length < 1759218604441 by omega]
  refine Ev.bind (spec_CredOk _ _ _ _ _ _ _ _ _ _) ?_
  change Ev (fun k => if cOk l[i] = true then _ else _) _
  rw [List.drop_eq_getElem_cons hi]
  unfold aliveC at ih ⊢
  by_cases hb : (cOk l[i] && decide (l[i].f5 ≥ now)) = true
  ·rw [List.filter_cons_of_pos (p := fun c : Cr => cOk c && decide (c.f5 ≥ now)) hb]
   rw [Bool.and_eq_true, decide_eq_true_eq] at hb
   simp only [hb.1, hb.2, ↓reduceIte]
   have h2 := ih (s ++ [l[i]]) (by simp; omega)
   rw [List.append_assoc] at h2
   exact h2
  ·rw [List.filter_cons_of_neg (p := fun c : Cr => cOk c && decide (c.f5 ≥ now)) hb]
   have h2 := ih s (by omega)
   cases hc : cOk l[i]
   ·simpa using h2
   ·rw [hc, Bool.true_and, decide_eq_true_eq] at hb
    simp only [hb, ↓reduceIte]
    exact h2
 ·intro s _
  refine Ev.succ ?_
  simp only [spec_Alive.l0, nat_lt, Nat.lt_irrefl, ↓reduceIte, List.drop_length]
  simpa [aliveC] using Ev.now s
theorem impl_AliveC (l : List Cr) (now : Int) (h : l.length ≤ 1048576) : Ev (fun k => impl_Alive.f k l now) (aliveC now l) := by
 unfold impl_Alive.f
 have key := Ev.up l.length (fun i (s : List Cr) k => impl_Alive.l0 k now s l l.length i) (fun i s => s ++ aliveC now (l.drop i)) (fun i s => s.length ≤ i) ?_ ?_ 0 [] (Nat.zero_le _) (by simp)
 ·exact key
 ·intro i s hi hs ih
  refine Ev.succ ?_
  simp only [impl_Alive.l0, nat_lt, nat_0, hi, ↓reduceIte, rd_T46, getD_ _ hi, getDn_ _ hi, up_ (show i < 4611686018427387904 by omega), show s.length < 1759218604441 by omega]
  refine Ev.bind (impl_CredOk _ _ _ _ _ _ _ _ _ _) ?_
  change Ev (fun k => if cOk l[i] = true then _ else _) _
  rw [List.drop_eq_getElem_cons hi]
  unfold aliveC at ih ⊢
  by_cases hb : (cOk l[i] && decide (l[i].f5 ≥ now)) = true
  ·rw [List.filter_cons_of_pos (p := fun c : Cr => cOk c && decide (c.f5 ≥ now)) hb]
   rw [Bool.and_eq_true, decide_eq_true_eq] at hb
   simp only [hb.1, hb.2, ↓reduceIte]
   have h2 := ih (s ++ [l[i]]) (by simp; omega)
   rw [List.append_assoc] at h2
   exact h2
  ·rw [List.filter_cons_of_neg (p := fun c : Cr => cOk c && decide (c.f5 ≥ now)) hb]
   have h2 := ih s (by omega)
   cases hc : cOk l[i]
   ·simpa using h2
   ·rw [hc, Bool.true_and, decide_eq_true_eq] at hb
    simp only [hb, ↓reduceIte]
    exact h2
 ·intro s _
  refine Ev.succ ?_
  simp only [impl_Alive.l0, nat_lt, Nat.lt_irrefl, ↓reduceIte, List.drop_length]
  simpa [aliveC] using Ev.now s
theorem spec_Still (l : List Cr) (h : l.length ≤ 1048576) (now : Int) : Ev (fun k => spec_StillAt.f k l now) (factsF (aliveC now l)) := by
 unfold spec_StillAt.f
 refine Ev.bind (spec_AliveC l now h) ?_
 have := aliveC_len now l
 refine Ev.bind (spec_Facts (aliveC now l) (by omega)) ?_
 exact Ev.now _
theorem impl_Still (l : List Cr) (h : l.length ≤ 1048576) (now : Int) : Ev (fun k => impl_StillAt.f k l now) (factsF (aliveC now l)) := by
 unfold impl_StillAt.f
 refine Ev.bind (impl_AliveC l now h) ?_
 have := aliveC_len now l
 refine Ev.bind (impl_Facts (aliveC now l) (by omega)) ?_
 exact Ev.now _
end Q
end Go.Proofs.Ytppdmcimddhbaaa
