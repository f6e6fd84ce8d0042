/-
Words and lists of numbers: what is copied is the same list again; a word's text is one plain function.
-/
import Derived.Test.YtppdmcimddhbaaaKFnExactTreeSizePAx0
import Derived.Test.YtppdmcimddhbaaaKFnExactTreeSizePAxo
import Derived.Test.YtppdmcimddhbaaaKFnExactTreeSizePAx3
import Derived.Test.YtppdmcimddhbaaaKFnExactTreeSizePAx5
import Derived.Test.YtppdmcimddhbaaaKFnExactTreeSizePAx8
import Derived.Test.YtppdmcimddhbaaaKFnExactTreeSizeQ0
namespace Go.Proofs.Ytppdmcimddhbaaa
open Go.RowKit Go.Proofs.YtppdmcimddhbaaaW.PrintWords Go.Proofs.YtppdmcimddhbaaaW.PrintLast Go.Proofs.YtppdmcimddhbaaaW.PrintMore Go.Proofs.Ytppdmcimddhbaaa.PA
set_option linter.unusedVariables false
set_option linter.unusedSimpArgs false
namespace Q
theorem rd_ {l : List Int} {i : Nat} (h : i < l.length) : rd l (i : Int) = l[i] := by unfold rd; simp [h]
theorem toIntS (l : List Int) (h : l.length ≤ 1048576) : Ev (fun k => laws_toIntS.f k l) l := by
  unfold laws_toIntS.f
  simp only [show (0 : Int) ≤ (l.length : Int) by omega, Int.toNat_natCast, show l.length ≤ 35184372088832 by omega, ↓reduceIte]
  have key := Ev.up0 l.length (fun i k => laws_toIntS.l0 k l ((l.take i).map id ++ List.replicate (l.length - i) 0) i) (fun _ => l.map id) ?_ ?_ 0 (Nat.zero_le _)
  · rw [fill_0, List.map_id] at key; exact key
  · intro i hi hn
    refine Ev.succ ?_
    simp only [laws_toIntS.l0, nat_lt, nat_0, hi, fill_len l id 0 i (by omega), ↓reduceIte, rd_ hi, up_ (show i < 4611686018427387904 by omega), Int.toNat_natCast]
    have := fill_ l id 0 i hi
    simp only [id] at this ⊢
    rw [this]
    exact hn
  · refine Ev.succ ?_
    simp only [laws_toIntS.l0, nat_lt, Nat.lt_irrefl, ↓reduceIte, fill_n]
    exact Ev.now _
theorem szIntS (l : List Int) (n : Int) (h : l.length ≤ 9223372036854775807) (h0 : 0 ≤ n) (h1 : n ≤ 1048576) : laws_szIntS.f l n = some (if (l.length : Int) ≤ n then n - (l.length : Int) else -1) := by
  unfold laws_szIntS.f
  rw [w64 (by omega) (by omega)]
  by_cases h1 : (l.length : Int) ≤ n
  · simp only [show ¬ (n - (l.length : Int) < 0) by omega, h1, ↓reduceIte]
  · simp only [show (n - (l.length : Int) < 0) by omega, h1, ↓reduceIte]
theorem eqIntS (l : List Int) (h : l.length ≤ 1048576) : Ev (fun k => laws_eqIntS.f k l l) true := by
  unfold laws_eqIntS.f
  simp only [↓reduceIte]
  refine Ev.up0 l.length (fun i k => laws_eqIntS.l0 k l l i) (fun _ => true) ?_ ?_ 0 (Nat.zero_le _)
  · intro i hi hn
    refine Ev.succ ?_
    simp only [laws_eqIntS.l0, nat_lt, nat_0, hi, ↓reduceIte, up_ (show i < 4611686018427387904 by omega)]
    exact hn
  · refine Ev.succ ?_
    simp only [laws_eqIntS.l0, nat_lt, Nat.lt_irrefl, ↓reduceIte]
    exact Ev.now _
theorem eqRole_ (a b : Int) : laws_eqRole.f a b a b = some true := by unfold laws_eqRole.f; simp
theorem eqCred_ (a b c d e f g h i j : Int) : laws_eqCred.f a b c d e f g h i j a b c d e f g h i j = some true := by unfold laws_eqCred.f; simp [eqRole_]
theorem eqFact_ (a b c : Int) : laws_eqFact.f a b c a b c = some true := by unfold laws_eqFact.f; simp [eqRole_]
theorem toCred_ (a b c d e f g h i j : Int) : laws_toCred.f a b c d e f g h i j = some (a, b, c, d, e, f, g, h, i, j) := rfl
theorem toFact_ (a b c : Int) : laws_toFact.f a b c = some (a, b, c) := rfl
end Q
end Go.Proofs.Ytppdmcimddhbaaa
