/-
Lists of words and of facts as the laws hand them on, compare and mark them; who is alive; members, and what holds at a time.
-/
import Derived.Test.YtjpjidgfcljpcaaKCPCx15
import Derived.Test.YtjpjidgfcljpcaaKCPCx16
import Derived.Test.YtjpjidgfcljpcaaKCQ14
namespace Go.Proofs.Ytjpjidgfcljpcaa
open Go.RowKit Go.Proofs.YtjpjidgfcljpcaaW.PrintWords Go.Proofs.YtjpjidgfcljpcaaW.PrintLast Go.Proofs.YtjpjidgfcljpcaaW.PrintMore Go.Proofs.Ytjpjidgfcljpcaa.PC
set_option linter.unusedVariables false
set_option linter.unusedSimpArgs false
namespace Q
abbrev LCr := S118
def toC (x : LCr) : Cr := ⟨x.f0, ⟨x.f1.f0, x.f1.f1⟩, x.f2, ⟨x.f3.f0, x.f3.f1⟩, ⟨x.f4.f0, x.f4.f1⟩, x.f5, x.f6⟩
theorem szCreds (l : List LCr) (h : l.length ≤ 9223372036854775807) : laws_szCredS.f l 1048576 = some (if l.length ≤ 1048576 then (1048576 : Int) - l.length else -1) := by
 unfold laws_szCredS.f
 rw [w64 (n := (1048576 : Int) - (l.length : Int)) (by omega) (by omega)]
 by_cases h1 : l.length ≤ 1048576
 ·simp only [show ¬ ((1048576 : Int) - (l.length : Int) < 0) by omega, h1, ↓reduceIte]
 ·simp only [show ((1048576 : Int) - (l.length : Int) < 0) by omega, h1, ↓reduceIte]
theorem toCreds (l : List LCr) (h : l.length ≤ 1048576) : Ev (fun k => laws_toCredS.f k l) (l.map toC) := by
 unfold laws_toCredS.f
 simp only [nat_0, ↓reduceIte, Int.toNat_natCast, show l.length ≤ 3518437208883 by omega]
 rw [← fill_0 l toC z56]
 refine Ev.up0 l.length (fun i k => laws_toCredS.l0 k l ((l.take i).map toC ++ List.replicate (l.length - i) z56) i) (fun _ => l.map toC) ?_ ?_ 0 (Nat.zero_le _)
 ·intro i hi hn
  refine Ev.succ ?_
  simp only [laws_toCredS.l0, nat_lt, nat_0, hi, ↓reduceIte, rd_T118, getD_ _ hi, getDn_ _ hi, laws_toCred.f, laws_toRole.f, Option.bind_some, fill_len l toC z56 i (by omega), Int.toNat_natCast, up_ (show i < 4611686018427387904 by omega)]
  have e := fill_ l toC z56 i hi
  unfold toC at e hn ⊢
  rw [e]
  exact hn
 ·refine Ev.succ ?_
  simp only [laws_toCredS.l0, nat_lt, Nat.lt_irrefl, ↓reduceIte]
  rw [fill_n]
  exact Ev.now _
theorem eqRoleR (a b : Int) : laws_eqRole.f a b a b = some true := by unfold laws_eqRole.f; simp
theorem eqCreds (l : List Cr) (h : l.length ≤ 1048576) : Ev (fun k => laws_eqCredS.f k l l) true := by
 unfold laws_eqCredS.f
 simp only [↓reduceIte]
 refine Ev.up0 l.length (fun i k => laws_eqCredS.l0 k l l i) (fun _ => true) ?_ ?_ 0 (Nat.zero_le _)
 ·intro i hi hn
  refine Ev.succ ?_
  simp only [laws_eqCredS.l0, nat_lt, nat_0, hi, ↓reduceIte, laws_eqCred.f, eqRoleR, Option.bind_some, up_ (show i < 4611686018427387904 by omega)]
  exact hn
 ·refine Ev.succ ?_
  simp only [laws_eqCredS.l0, nat_lt, Nat.lt_irrefl, ↓reduceIte]
  exact Ev.now _
theorem rdset {α : Type} (l : List α) (i : Nat) (h : i < l.length) (x z : α) : (l.set i x).getD i z = x := by simp [h]
theorem setset {α : Type} (l : List α) (i : Nat) (x y : α) : (l.set i x).set i y = l.set i y := by simp
def marksC : Nat → Int → List Cr
 | 0, _ => []
 | n + 1, k => ⟨k, ⟨k + 1, k + 2⟩, k + 3, ⟨k + 4, k + 5⟩, ⟨k + 6, k + 7⟩, k + 8, k + 9⟩ :: marksC n (k + 10)
theorem markCreds_ (n : Nat) : ∀ (l pre : List Cr) (m : Int), l.length = n → pre.length + n ≤ 1048576 → 0 ≤ m → m + 10 * n ≤ 4611686018427387904 →
  Ev (fun k => laws_markCredS.l0 k (pre ++ l) m pre.length) (m + 10 * n, pre ++ marksC n m) := by
 induction n with
 | zero =>
  intro l pre m h1 h2 h3 h4
  obtain rfl := List.length_eq_zero_iff.1 h1
  refine Ev.succ ?_
  simp only [laws_markCredS.l0, List.append_nil, Int.lt_irrefl, ↓reduceIte, marksC]
  simpa using Ev.now (m, pre)
 | succ n ih =>
  intro l pre m h1 h2 h3 h4
  obtain ⟨x, xs, rfl⟩ : ∃ x xs, l = x :: xs := by cases l with | nil => simp at h1 | cons x xs => exact ⟨x, xs, rfl⟩
  refine Ev.succ ?_
  have hi : pre.length < (pre ++ x :: xs).length := by simp
  simp only [laws_markCredS.l0, nat_lt, nat_0, hi, ↓reduceIte, Option.bind_some, rd_T56, Int.toNat_natCast, rdset _ _ hi, setset, up_ (show pre.length < 4611686018427387904 by omega)]
  rw [w64 (n := m + 1) (by omega) (by omega), w64 (n := m + 1 + 1) (by omega) (by omega), w64 (n := m + 1 + 1 + 1) (by omega) (by omega), w64 (n := m + 1 + 1 + 1 + 1) (by omega) (by omega), w64 (n := m + 1 + 1 + 1 + 1 + 1) (by omega) (by omega), w64 (n := m + 1 + 1 + 1 + 1 + 1 + 1) (by omega) (by omega), w64 (n := m + 1 + 1 + 1 + 1 + 1 + 1 + 1) (by omega) (by omega), w64 (n := m + 1 + 1 + 1 + 1 + 1 + 1 + 1 + 1) (by omega) (by omega), w64 (n := m + 1 + 1 + 1 + 1 + 1 + 1 + 1 + 1 + 1) (by omega) (by omega), w64 (n := m + 1 + 1 + 1 + 1 + 1 + 1 + 1 + 1 + 1 + 1) (by omega) (by omega)]
  have e0 : m + 1 + 1 = m + 2 ∧ m + 2 + 1 = m + 3 ∧ m + 3 + 1 = m + 4 ∧ m + 4 + 1 = m + 5 ∧ m + 5 + 1 = m + 6 ∧ m + 6 + 1 = m + 7 ∧ m + 7 + 1 = m + 8 ∧ m + 8 + 1 = m + 9 ∧ m + 9 + 1 = m + 10 := by omega
  obtain ⟨e1, e2, e3, e4, e5, e6, e7, e8, e9⟩ := e0
  rw [e1, e2, e3, e4, e5, e6, e7, e8, e9]
  have := ih xs (pre ++ [⟨m, ⟨m + 1, m + 2⟩, m + 3, ⟨m + 4, m + 5⟩, ⟨m + 6, m + 7⟩, m + 8, m + 9⟩]) (m + 10) (by simpa using h1) (by simp; omega) (by omega) (by omega)
  have q1 : (pre ++ x :: xs).set pre.length (⟨m, ⟨m + 1, m + 2⟩, m + 3, ⟨m + 4, m + 5⟩, ⟨m + 6, m + 7⟩, m + 8, m + 9⟩ : Cr) = (pre ++ [⟨m, ⟨m + 1, m + 2⟩, m + 3, ⟨m + 4, m + 5⟩, ⟨m + 6, m + 7⟩, m + 8, m + 9⟩]) ++ xs := by simp
  rw [q1]
  simp only [List.length_append, List.length_singleton] at this
  have q2 : (m + 10 * ((n + 1 : Nat) : Int), pre ++ marksC (n + 1) m) = (m + 10 + 10 * (n : Int), pre ++ [(⟨m, ⟨m + 1, m + 2⟩, m + 3, ⟨m + 4, m + 5⟩, ⟨m + 6, m + 7⟩, m + 8, m + 9⟩ : Cr)] ++ marksC n (m + 10)) := by
   simp [marksC]; omega
  rw [q2]
  exact this
theorem markCreds (l : List Cr) (h : l.length ≤ 1048576) : Ev (fun k => laws_markCredS.f k l 1) (1 + 10 * (l.length : Int), marksC l.length 1) := by
 have := markCreds_ l.length l [] 1 rfl (by simpa using h) (by omega) (by omega)
 simpa [laws_markCredS.f] using this
def aliveC (now : Int) (l : List Cr) : List Cr := l.filter fun c => cOk c && decide (c.f5 ≥ now)
def memF (l : List Cr) (r : Rl) (w : Int) : Bool := decide ((⟨r, w⟩ : Fc) ∈ factsF l)
def holdsC (l : List Cr) (r : Rl) (w now : Int) : Bool := memF (aliveC now l) r w
end Q
end Go.Proofs.Ytjpjidgfcljpcaa
