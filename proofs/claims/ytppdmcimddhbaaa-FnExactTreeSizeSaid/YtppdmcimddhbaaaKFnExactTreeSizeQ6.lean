/-
Lists of steps: copied, held against each other, and as texts.
-/
import Derived.Test.YtppdmcimddhbaaaKFnExactTreeSizePAx0
import Derived.Test.YtppdmcimddhbaaaKFnExactTreeSizePAxo
import Derived.Test.YtppdmcimddhbaaaKFnExactTreeSizePAx3
import Derived.Test.YtppdmcimddhbaaaKFnExactTreeSizePAx6
import Derived.Test.YtppdmcimddhbaaaKFnExactTreeSizePAx9
import Derived.Test.YtppdmcimddhbaaaKFnExactTreeSizeQ5
namespace Go.Proofs.Ytppdmcimddhbaaa
open Go.RowKit Go.Proofs.YtppdmcimddhbaaaW.PrintWords Go.Proofs.YtppdmcimddhbaaaW.PrintLast Go.Proofs.YtppdmcimddhbaaaW.PrintMore Go.Proofs.Ytppdmcimddhbaaa.PA
set_option linter.unusedVariables false
set_option linter.unusedSimpArgs false
namespace Q
abbrev LStep := S115
abbrev Step := S105
def toSt (x : LStep) : Step := ⟨⟨x.f0.f0, ⟨x.f0.f1.f0, x.f0.f1.f1⟩, x.f0.f2, ⟨x.f0.f3.f0, x.f0.f3.f1⟩, ⟨x.f0.f4.f0, x.f0.f4.f1⟩, x.f0.f5, x.f0.f6⟩, ⟨⟨x.f1.f0.f0, x.f1.f0.f1⟩, x.f1.f1⟩, x.f2⟩
def zSt : Step := z105
theorem toStepS (l : List LStep) (h : l.length ≤ 1048576) (hs : ∀ x ∈ l, x.f2.length ≤ 1048576) : Ev (fun k => laws_toStepS.f k l) (l.map toSt) := by
  unfold laws_toStepS.f
  simp only [show (0 : Int) ≤ (l.length : Int) by omega, Int.toNat_natCast, show l.length ≤ 2199023255552 by omega, ↓reduceIte]
  have key := Ev.up0 l.length (fun i k => laws_toStepS.l0 k l ((l.take i).map toSt ++ List.replicate (l.length - i) zSt) i) (fun _ => l.map toSt) ?_ ?_ 0 (Nat.zero_le _)
  · rw [fill_0] at key; exact key
  · intro i hi hn
    refine Ev.succ ?_
    simp only [laws_toStepS.l0, nat_lt, nat_0, hi, fill_len l toSt zSt i (by omega), ↓reduceIte, rd_T115, getD_ _ hi, getDn_ _ hi, up_ (show i < 4611686018427387904 by omega), Int.toNat_natCast]
    refine Ev.bind (toStep_ _ _ _ _ _ _ _ _ _ _ _ _ _ _ (hs _ (List.getElem_mem hi))) ?_
    have := fill_ l toSt zSt i hi
    unfold toSt at this hn ⊢
    rw [this]
    exact hn
  · refine Ev.succ ?_
    simp only [laws_toStepS.l0, nat_lt, Nat.lt_irrefl, ↓reduceIte, fill_n]
    exact Ev.now _
theorem eqStepS (l : List Step) (h : l.length ≤ 1048576) (hs : ∀ x ∈ l, x.f2.length ≤ 1048576) : Ev (fun k => laws_eqStepS.f k l l) true := by
  unfold laws_eqStepS.f
  simp only [↓reduceIte]
  refine Ev.up0 l.length (fun i k => laws_eqStepS.l0 k l l i) (fun _ => true) ?_ ?_ 0 (Nat.zero_le _)
  · intro i hi hn
    refine Ev.succ ?_
    simp only [laws_eqStepS.l0, nat_lt, nat_0, hi, ↓reduceIte, rd_T105, getD_ _ hi, getDn_ _ hi, up_ (show i < 4611686018427387904 by omega)]
    refine Ev.bind (eqStep_ _ _ _ _ _ _ _ _ _ _ _ _ _ _ (hs _ (List.getElem_mem hi))) ?_
    simp only [↓reduceIte]
    exact hn
  · refine Ev.succ ?_
    simp only [laws_eqStepS.l0, nat_lt, Nat.lt_irrefl, ↓reduceIte]
    exact Ev.now _
def szFrom : List LStep → Int → Int
  | [], m => m
  | x :: xs, m => if (x.f2.length : Int) ≤ m then szFrom xs (m - x.f2.length) else -1
theorem szFrom_mem : ∀ (l : List LStep) (m : Int), 0 ≤ szFrom l m → ∀ x ∈ l, (x.f2.length : Int) ≤ m := by
  intro l
  induction l with
  | nil => intro m _ x hx; simp at hx
  | cons y ys ih =>
    intro m h x hx
    unfold szFrom at h
    by_cases h1 : (y.f2.length : Int) ≤ m
    · rw [if_pos h1] at h
      rcases List.mem_cons.1 hx with rfl | hx
      · exact h1
      · have := ih _ h x hx; omega
    · rw [if_neg h1] at h; omega
theorem szStepS (l : List LStep) (h : l.length ≤ 9223372036854775807) (hs : ∀ x ∈ l, x.f2.length ≤ 9223372036854775807) : Ev (fun k => laws_szStepS.f k l 1048576) (if l.length ≤ 1048576 then szFrom l (1048576 - l.length) else -1) := by
  unfold laws_szStepS.f
  rw [w64 (by omega) (by omega)]
  by_cases h1 : l.length ≤ 1048576
  · simp only [h1, ↓reduceIte, show ¬ ((1048576 : Int) - (l.length : Int) < 0) by omega]
    refine Ev.up l.length (fun i (m : Int) k => laws_szStepS.l0 k l m i) (fun i m => szFrom (l.drop i) m) (fun i m => 0 ≤ m ∧ m ≤ 1048576) ?_ ?_ 0 _ (Nat.zero_le _) ⟨by omega, by omega⟩
    · intro i m hi hm ih
      refine Ev.succ ?_
      simp only [laws_szStepS.l0, nat_lt, nat_0, hi, ↓reduceIte, rd_T115, getD_ _ hi, getDn_ _ hi, up_ (show i < 4611686018427387904 by omega), szStep_ _ _ _ _ _ _ _ _ _ _ _ _ _ _ m (hs _ (List.getElem_mem hi)) hm.1 hm.2, Option.bind_some]
      rw [List.drop_eq_getElem_cons hi]
      unfold szFrom
      by_cases h2 : (l[i].f2.length : Int) ≤ m
      · simp only [h2, ↓reduceIte, show ¬ (m - (l[i].f2.length : Int) < 0) by omega]
        exact ih _ ⟨by omega, by omega⟩
      · simp only [h2, ↓reduceIte, show ((-1 : Int) < 0) by omega]
        exact Ev.now _
    · intro m _
      refine Ev.succ ?_
      simp only [laws_szStepS.l0, nat_lt, Nat.lt_irrefl, ↓reduceIte, List.drop_length]
      exact Ev.now _
  · simp only [h1, ↓reduceIte, show ((1048576 : Int) - (l.length : Int) < 0) by omega]
    exact Ev.now _
end Q
end Go.Proofs.Ytppdmcimddhbaaa
