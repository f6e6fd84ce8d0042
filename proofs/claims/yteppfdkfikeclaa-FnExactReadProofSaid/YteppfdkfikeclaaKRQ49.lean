/-
Lists of steps marked and held: every field gets a number of its own, the inner rows too; what is held comes back as it was marked.
-/
import Derived.Test.YteppfdkfikeclaaKRPLx13
import Derived.Test.YteppfdkfikeclaaKRQ6
namespace Go.Proofs.Yteppfdkfikeclaa
open Go.RowKit Go.Proofs.YteppfdkfikeclaaW.PrintWords Go.Proofs.YteppfdkfikeclaaW.PrintLast Go.Proofs.YteppfdkfikeclaaW.PrintMore Go.Proofs.Yteppfdkfikeclaa.PL
set_option linter.unusedVariables false
set_option linter.unusedSimpArgs false
namespace Q
theorem rdset9 {α : Type} (l : List α) (i : Nat) (h : i < l.length) (x z : α) : (l.set i x).getD i z = x := by simp [h]
theorem setset9 {α : Type} (l : List α) (i : Nat) (x y : α) : (l.set i x).set i y = l.set i y := by simp
def marksI : Nat → Int → List Int
 | 0, _ => []
 | n + 1, k => k :: marksI n (k + 1)
theorem markInts_ (n : Nat) : ∀ (l pre : List Int) (m : Int), l.length = n → pre.length + n ≤ 1048576 → 0 ≤ m → m + n ≤ 4611686018427387904 →
  Ev (fun k => laws_markIntS.l0 k (pre ++ l) m pre.length) (m + n, pre ++ marksI n m) := by
 induction n with
 | zero =>
  intro l pre m h1 h2 h3 h4
  obtain rfl := List.length_eq_zero_iff.1 h1
  refine Ev.succ ?_
  simp only [laws_markIntS.l0, List.append_nil, Int.lt_irrefl, ↓reduceIte, marksI]
  simpa using Ev.now (m, pre)
 | succ n ih =>
  intro l pre m h1 h2 h3 h4
  obtain ⟨x, xs, rfl⟩ : ∃ x xs, l = x :: xs := by cases l with | nil => simp at h1 | cons x xs => exact ⟨x, xs, rfl⟩
  refine Ev.succ ?_
  have hi : pre.length < (pre ++ x :: xs).length := by simp
  simp only [laws_markIntS.l0, nat_lt, nat_0, hi, ↓reduceIte, Int.toNat_natCast, up_ (show pre.length < 4611686018427387904 by omega)]
  rw [w64 (n := m + 1) (by omega) (by omega)]
  have := ih xs (pre ++ [m]) (m + 1) (by simpa using h1) (by simp; omega) (by omega) (by omega)
  have q1 : (pre ++ x :: xs).set pre.length m = (pre ++ [m]) ++ xs := by simp
  rw [q1]
  simp only [List.length_append, List.length_singleton] at this
  have q2 : (m + ((n + 1 : Nat) : Int), pre ++ marksI (n + 1) m) = (m + 1 + (n : Int), pre ++ [m] ++ marksI n (m + 1)) := by
   simp [marksI]; omega
  rw [q2]
  exact this
theorem markIntsM (l : List Int) (m : Int) (h : l.length ≤ 1048576) (h0 : 0 ≤ m) (h1 : m + l.length ≤ 4611686018427387904) : Ev (fun k => laws_markIntS.f k l m) (m + (l.length : Int), marksI l.length m) := by
 have := markInts_ l.length l [] m rfl (by simpa using h) h0 h1
 simpa [laws_markIntS.f] using this
theorem heldInts_ (n : Nat) : ∀ (pre : List Int) (m : Int), pre.length + n ≤ 1048576 → 0 ≤ m → m + n ≤ 4611686018427387904 →
  Ev (fun k => laws_heldIntS.l0 k (pre ++ marksI n m) m pre.length) (m + n) := by
 induction n with
 | zero =>
  intro pre m h2 h3 h4
  refine Ev.succ ?_
  simp only [laws_heldIntS.l0, marksI, List.append_nil, Int.lt_irrefl, ↓reduceIte]
  simpa using Ev.now m
 | succ n ih =>
  intro pre m h2 h3 h4
  refine Ev.succ ?_
  have hi : pre.length < (pre ++ marksI (n + 1) m).length := by simp [marksI]
  have e0 : rd (pre ++ marksI (n + 1) m) (pre.length : Int) = m := by simp [rd, marksI]
  simp only [laws_heldIntS.l0, nat_lt, nat_0, hi, ↓reduceIte, e0, up_ (show pre.length < 4611686018427387904 by omega)]
  rw [w64 (n := m + 1) (by omega) (by omega)]
  have := ih (pre ++ [m]) (m + 1) (by simp; omega) (by omega) (by omega)
  simp only [List.length_append, List.length_singleton] at this
  have q2 : m + ((n + 1 : Nat) : Int) = m + 1 + (n : Int) := by omega
  have q3 : pre ++ marksI (n + 1) m = pre ++ [m] ++ marksI n (m + 1) := by simp [marksI]
  rw [q2, q3]
  exact this
theorem heldIntsM (n : Nat) (m : Int) (h : n ≤ 1048576) (h0 : 0 ≤ m) (h1 : m + n ≤ 4611686018427387904) : Ev (fun k => laws_heldIntS.f k (marksI n m) m) (m + (n : Int)) := by
 have := heldInts_ n [] m (by simpa using h) h0 h1
 simpa [laws_heldIntS.f] using this
def marksS : List Nat → Int → List Step
 | [], _ => []
 | n :: ns, m => ⟨⟨m, ⟨m + 1, m + 2⟩, m + 3, ⟨m + 4, m + 5⟩, ⟨m + 6, m + 7⟩, m + 8, m + 9⟩, ⟨⟨m + 10, m + 11⟩, m + 12⟩, marksI n (m + 13)⟩ :: marksS ns (m + 13 + n)
def endS : List Nat → Int → Int
 | [], m => m
 | n :: ns, m => endS ns (m + 13 + n)
theorem endS_ge : ∀ (ns : List Nat) (m : Int), m ≤ endS ns m := by
 intro ns
 induction ns with
 | nil => intro m; exact Int.le_refl _
 | cons n ns ih => intro m; have := ih (m + 13 + n); unfold endS; omega
theorem markSteps_ : ∀ (l pre : List Step) (m : Int), pre.length + l.length ≤ 1048576 → (∀ s ∈ l, s.f2.length ≤ 2) → 0 ≤ m → m + 15 * l.length ≤ 4611686018427387 →
  Ev (fun k => laws_markStepS.l0 k (pre ++ l) m pre.length) (endS (l.map fun s => s.f2.length) m, pre ++ marksS (l.map fun s => s.f2.length) m) := by
 intro l
 induction l with
 | nil =>
  intro pre m h1 h2 h3 h4
  refine Ev.succ ?_
  simp only [laws_markStepS.l0, List.append_nil, Int.lt_irrefl, ↓reduceIte, marksS, endS, List.map_nil]
  exact Ev.now _
 | cons x xs ih =>
  intro pre m h1 h2 h3 h4
  rw [List.length_cons] at h1 h4
  have hx : x.f2.length ≤ 2 := h2 x (by simp)
  refine Ev.succ ?_
  have hi : pre.length < (pre ++ x :: xs).length := by simp
  have er : (pre ++ x :: xs).getD pre.length z36 = x := by simp
  simp only [laws_markStepS.l0, nat_lt, nat_0, hi, ↓reduceIte, Option.bind_some, rd_T36, Int.toNat_natCast, rdset9 _ _ hi, setset9, er, up_ (show pre.length < 4611686018427387904 by omega)]
  rw [w64 (n := m + 1) (by omega) (by omega), w64 (n := m + 1 + 1) (by omega) (by omega), w64 (n := m + 1 + 1 + 1) (by omega) (by omega), w64 (n := m + 1 + 1 + 1 + 1) (by omega) (by omega), w64 (n := m + 1 + 1 + 1 + 1 + 1) (by omega) (by omega), w64 (n := m + 1 + 1 + 1 + 1 + 1 + 1) (by omega) (by omega), w64 (n := m + 1 + 1 + 1 + 1 + 1 + 1 + 1) (by omega) (by omega), w64 (n := m + 1 + 1 + 1 + 1 + 1 + 1 + 1 + 1) (by omega) (by omega), w64 (n := m + 1 + 1 + 1 + 1 + 1 + 1 + 1 + 1 + 1) (by omega) (by omega), w64 (n := m + 1 + 1 + 1 + 1 + 1 + 1 + 1 + 1 + 1 + 1) (by omega) (by omega), w64 (n := m + 1 + 1 + 1 + 1 + 1 + 1 + 1 + 1 + 1 + 1 + 1) (by omega) (by omega), w64 (n := m + 1 + 1 + 1 + 1 + 1 + 1 + 1 + 1 + 1 + 1 + 1 + 1) (by omega) (by omega), w64 (n := m + 1 + 1 + 1 + 1 + 1 + 1 + 1 + 1 + 1 + 1 + 1 + 1 + 1) (by omega) (by omega)]
  have e0 : m + 1 + 1 = m + 2 ∧ m + 2 + 1 = m + 3 ∧ m + 3 + 1 = m + 4 ∧ m + 4 + 1 = m + 5 ∧ m + 5 + 1 = m + 6 ∧ m + 6 + 1 = m + 7 ∧ m + 7 + 1 = m + 8 ∧ m + 8 + 1 = m + 9 ∧ m + 9 + 1 = m + 10 ∧ m + 10 + 1 = m + 11 ∧ m + 11 + 1 = m + 12 ∧ m + 12 + 1 = m + 13 := by omega
  obtain ⟨e1, e2, e3, e4, e5, e6, e7, e8, e9, e10, e11, e12⟩ := e0
  rw [e1, e2, e3, e4, e5, e6, e7, e8, e9, e10, e11, e12]
  refine Ev.bind (markIntsM x.f2 (m + 13) (by omega) (by omega) (by omega)) ?_
  have := ih (pre ++ [⟨⟨m, ⟨m + 1, m + 2⟩, m + 3, ⟨m + 4, m + 5⟩, ⟨m + 6, m + 7⟩, m + 8, m + 9⟩, ⟨⟨m + 10, m + 11⟩, m + 12⟩, marksI x.f2.length (m + 13)⟩]) (m + 13 + x.f2.length) (by simp; omega) (fun s hs => h2 s (by simp [hs])) (by omega) (by omega)
  have q1 : (pre ++ x :: xs).set pre.length (⟨⟨m, ⟨m + 1, m + 2⟩, m + 3, ⟨m + 4, m + 5⟩, ⟨m + 6, m + 7⟩, m + 8, m + 9⟩, ⟨⟨m + 10, m + 11⟩, m + 12⟩, marksI x.f2.length (m + 13)⟩ : Step) = (pre ++ [⟨⟨m, ⟨m + 1, m + 2⟩, m + 3, ⟨m + 4, m + 5⟩, ⟨m + 6, m + 7⟩, m + 8, m + 9⟩, ⟨⟨m + 10, m + 11⟩, m + 12⟩, marksI x.f2.length (m + 13)⟩]) ++ xs := by simp
  rw [q1]
  simp only [List.length_append, List.length_singleton] at this
  simp only [List.map_cons, marksS, endS]
  rw [List.append_cons pre _ (marksS (List.map (fun s => s.f2.length) xs) (m + 13 + (x.f2.length : Int)))]
  exact this
theorem markSteps (l : List Step) (h : l.length ≤ 1048576) (h2 : ∀ s ∈ l, s.f2.length ≤ 2) : Ev (fun k => laws_markStepS.f k l 1) (endS (l.map fun s => s.f2.length) 1, marksS (l.map fun s => s.f2.length) 1) := by
 have := markSteps_ l [] 1 (by simpa using h) h2 (by omega) (by omega)
 simpa [laws_markStepS.f] using this
theorem heldSteps_ : ∀ (ns : List Nat) (pre : List Step) (m : Int), pre.length + ns.length ≤ 1048576 → (∀ n ∈ ns, n ≤ 2) → 0 ≤ m → m + 15 * ns.length ≤ 4611686018427387 →
  Ev (fun k => laws_heldStepS.l0 k (pre ++ marksS ns m) m pre.length) (endS ns m) := by
 intro ns
 induction ns with
 | nil =>
  intro pre m h1 h2 h3 h4
  refine Ev.succ ?_
  simp only [laws_heldStepS.l0, List.append_nil, Int.lt_irrefl, ↓reduceIte, marksS, endS]
  exact Ev.now _
 | cons n ns ih =>
  intro pre m h1 h2 h3 h4
  rw [List.length_cons] at h1 h4
  have hx : n ≤ 2 := h2 n (by simp)
  refine Ev.succ ?_
  have hi : pre.length < (pre ++ marksS (n :: ns) m).length := by simp [marksS]
  have er : (pre ++ marksS (n :: ns) m).getD pre.length z36 = ⟨⟨m, ⟨m + 1, m + 2⟩, m + 3, ⟨m + 4, m + 5⟩, ⟨m + 6, m + 7⟩, m + 8, m + 9⟩, ⟨⟨m + 10, m + 11⟩, m + 12⟩, marksI n (m + 13)⟩ := by simp [marksS]
  simp only [laws_heldStepS.l0, nat_lt, nat_0, hi, rd_T36, Int.toNat_natCast, er, up_ (show pre.length < 4611686018427387904 by omega)]
  rw [w64 (n := m + 1) (by omega) (by omega), w64 (n := m + 1 + 1) (by omega) (by omega), w64 (n := m + 1 + 1 + 1) (by omega) (by omega), w64 (n := m + 1 + 1 + 1 + 1) (by omega) (by omega), w64 (n := m + 1 + 1 + 1 + 1 + 1) (by omega) (by omega), w64 (n := m + 1 + 1 + 1 + 1 + 1 + 1) (by omega) (by omega), w64 (n := m + 1 + 1 + 1 + 1 + 1 + 1 + 1) (by omega) (by omega), w64 (n := m + 1 + 1 + 1 + 1 + 1 + 1 + 1 + 1) (by omega) (by omega), w64 (n := m + 1 + 1 + 1 + 1 + 1 + 1 + 1 + 1 + 1) (by omega) (by omega), w64 (n := m + 1 + 1 + 1 + 1 + 1 + 1 + 1 + 1 + 1 + 1) (by omega) (by omega), w64 (n := m + 1 + 1 + 1 + 1 + 1 + 1 + 1 + 1 + 1 + 1 + 1) (by omega) (by omega), w64 (n := m + 1 + 1 + 1 + 1 + 1 + 1 + 1 + 1 + 1 + 1 + 1 + 1) (by omega) (by omega), w64 (n := m + 1 + 1 + 1 + 1 + 1 + 1 + 1 + 1 + 1 + 1 + 1 + 1 + 1) (by omega) (by omega)]
  have e0 : m + 1 + 1 = m + 2 ∧ m + 2 + 1 = m + 3 ∧ m + 3 + 1 = m + 4 ∧ m + 4 + 1 = m + 5 ∧ m + 5 + 1 = m + 6 ∧ m + 6 + 1 = m + 7 ∧ m + 7 + 1 = m + 8 ∧ m + 8 + 1 = m + 9 ∧ m + 9 + 1 = m + 10 ∧ m + 10 + 1 = m + 11 ∧ m + 11 + 1 = m + 12 ∧ m + 12 + 1 = m + 13 := by omega
  obtain ⟨e1, e2, e3, e4, e5, e6, e7, e8, e9, e10, e11, e12⟩ := e0
  rw [e1, e2, e3, e4, e5, e6, e7, e8, e9, e10, e11, e12]
  simp only [↓reduceIte]
  refine Ev.bind (heldIntsM n (m + 13) (by omega) (by omega) (by omega)) ?_
  simp only [show ¬ (m + 13 + (n : Int) < 0) by omega, ↓reduceIte]
  have := ih (pre ++ [⟨⟨m, ⟨m + 1, m + 2⟩, m + 3, ⟨m + 4, m + 5⟩, ⟨m + 6, m + 7⟩, m + 8, m + 9⟩, ⟨⟨m + 10, m + 11⟩, m + 12⟩, marksI n (m + 13)⟩]) (m + 13 + n) (by simp; omega) (fun s hs => h2 s (by simp [hs])) (by omega) (by omega)
  simp only [List.length_append, List.length_singleton] at this
  simp only [marksS, endS]
  rw [List.append_cons pre _ (marksS ns (m + 13 + (n : Int)))]
  exact this
theorem heldSteps (ns : List Nat) (h : ns.length ≤ 1048576) (h2 : ∀ n ∈ ns, n ≤ 2) : Ev (fun k => laws_heldStepS.f k (marksS ns 1) 1) (endS ns 1) := by
 have := heldSteps_ ns [] 1 (by simpa using h) h2 (by omega) (by omega)
 simpa [laws_heldStepS.f] using this
end Q
end Go.Proofs.Yteppfdkfikeclaa
