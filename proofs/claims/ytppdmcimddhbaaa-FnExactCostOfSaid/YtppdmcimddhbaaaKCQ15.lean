/-
Lists of words and of facts as the laws hand them on, compare and mark them; who is alive; members, and what holds at a time.
-/
import Derived.Test.YtppdmcimddhbaaaKCQ14
namespace Go.Proofs.Ytppdmcimddhbaaa
open Go.RowKit Go.Proofs.YtppdmcimddhbaaaW.PrintWords Go.Proofs.YtppdmcimddhbaaaW.PrintLast Go.Proofs.YtppdmcimddhbaaaW.PrintMore Go.Proofs.Ytppdmcimddhbaaa.PG
set_option linter.unusedVariables false
set_option linter.unusedSimpArgs false
namespace Q
abbrev LCr := S111
def toC (x : LCr) : Cr := ⟨x.f0, ⟨x.f1.f0, x.f1.f1⟩, x.f2, ⟨x.f3.f0, x.f3.f1⟩, ⟨x.f4.f0, x.f4.f1⟩, x.f5, x.f6⟩
theorem szCreds (l : List LCr) (h : l.length ≤ 9223372036854775807) : laws_szCredS.f l 1048576 = some (if l.length ≤ 1048576 then (1048576 : Int) - l.length else -1) := by
 unfold laws_szCredS.f
 rw [w64 (n := (1048576 : Int) - (l.length : Int)) (by omega) (by omega)]
 by_cases h1 : l.length ≤ 1048576
 ·simp only [show ¬ ((1048576 : Int) - (l.length : Int) < 0) by omega, h1, ↓reduceIte]
 ·simp only [show ((1048576 : Int) - (l.length : Int) < 0) by omega, h1, ↓reduceIte]
theorem toCreds (l : List LCr) (h : l.length ≤ 1048576) : Ev (fun k => laws_toCredS.f k l) (l.map toC) := by
 unfold laws_toCredS.f
 simp only [nat_0, ↓reduceIte, Int.toNat_natCast, show l.length ≤ 3518437208883 by omega]
 rw [← fill_0 l toC z46]
 refine Ev.up0 l.length (fun i k => laws_toCredS.l0 k l ((l.take i).map toC ++ List.replicate (l.length - i) z46) i) (fun _ => l.map toC) ?_ ?_ 0 (Nat.zero_le _)
 ·intro i hi hn
  refine Ev.succ ?_
  simp only [laws_toCredS.l0, nat_lt, nat_0, hi, ↓reduceIte, rd_T111, getD_ _ hi, getDn_ _ hi, laws_toCred.f, laws_toRole.f, Option.bind_some, fill_len l toC z46 i (by omega), Int.toNat_natCast, up_ (show i < 4611686018427387904 by omega)]
  have e := fill_ l toC z46 i hi
  unfold toC at e hn ⊢
  rw [e]
  exact hn
 ·refine Ev.succ ?_
  simp only [laws_toCredS.l0, nat_lt, Nat.lt_irrefl, ↓reduceIte]
  rw [fill_n]
  exact Ev.now _
theorem eqRoleR (a b : Int) : laws_eqRole.f a b a b = some true := by unfold laws_eqRole.f; simp
theorem eqCreds (l : List Cr) (h : l.length ≤ 1048576) : Ev (fun k => laws_eqCredS.f k l l) true := by
 unfold laws_eqCredS.f
 simp only [↓reduceIte]
 refine Ev.up0 l.length (fun i k => laws_eqCredS.l0 k l l i) (fun _ => true) ?_ ?_ 0 (Nat.zero_le _)
 ·intro i hi hn
  refine Ev.succ ?_
  simp only [laws_eqCredS.l0, nat_lt, nat_0, hi, ↓reduceIte, laws_eqCred.f, eqRoleR, Option.bind_some, up_ (show i < 4611686018427387904 by omega)]
  exact hn
 ·refine Ev.succ ?_
  simp only [laws_eqCredS.l0, nat_lt, Nat.lt_irrefl, ↓reduceIte]
  exact Ev.now _
def aliveC (now : Int) (l : List Cr) : List Cr := l.filter fun c => cOk c && decide (c.f5 ≥ now)
def memF (l : List Cr) (r : Rl) (w : Int) : Bool := decide ((⟨r, w⟩ : Fc) ∈ factsF l)
def holdsC (l : List Cr) (r : Rl) (w now : Int) : Bool := memF (aliveC now l) r w
end Q
end Go.Proofs.Ytppdmcimddhbaaa
