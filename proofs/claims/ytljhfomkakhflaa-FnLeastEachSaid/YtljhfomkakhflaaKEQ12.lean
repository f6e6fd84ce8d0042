/-
How big a proof's tree is: the reference (it caps at each step) and the program (it caps each sum) are one plain function.
-/
import Derived.Test.YtljhfomkakhflaaKEQ10
namespace Go.Proofs.Ytljhfomkakhflaa
open Go.RowKit Go.Proofs.YtljhfomkakhflaaW.PrintWords Go.Proofs.YtljhfomkakhflaaW.PrintLast Go.Proofs.YtljhfomkakhflaaW.PrintMore Go.Proofs.Ytljhfomkakhflaa.PA
set_option linter.unusedVariables false
set_option linter.unusedSimpArgs false
namespace Q
theorem stp_mem (l : List Step) (i : Nat) (h : i < l.length) : stp l i = l[i] := by simp [stp, rd_T58, h]
def okFrom (l : List Step) (n : Nat) : Nat → Bool := allFrom (fun j => stepOkB l (j : Int)) n
theorem rd_bd {D : List Int} {B p : Int} (hb : ∀ x ∈ D, 0 ≤ x ∧ x ≤ B) (h0 : 0 ≤ p) (h1 : p < D.length) : 0 ≤ rd D p ∧ rd D p ≤ B := by
 have : rd D p = D[p.toNat]'(by omega) := by simp [rd, show p.toNat < D.length by omega]
 rw [this]
 exact hb _ (List.getElem_mem _)
theorem step_pre {l : List Step} {i : Nat} (hi : i < l.length) (h : stepOkB l i = true) : (stp l i).f2.all (fun p => inB p 0 ((i : Int) - 1)) = true := by
 unfold stepOkB stepB at h
 simp only [Bool.and_eq_true] at h
 exact h.2.2.2.1
theorem okFrom_lt {l : List Step} {n i : Nat} (h : i < n) : okFrom l n i = (stepOkB l i && okFrom l n (i + 1)) := by unfold okFrom; rw [allFrom_lt h]
theorem okFrom_ge {l : List Step} {n : Nat} : okFrom l n n = true := by unfold okFrom; rw [allFrom_ge (Nat.lt_irrefl _)]
end Q
end Go.Proofs.Ytljhfomkakhflaa

namespace Go.Proofs.Ytljhfomkakhflaa
open Go.RowKit Go.Proofs.YtljhfomkakhflaaW.PrintWords Go.Proofs.YtljhfomkakhflaaW.PrintLast Go.Proofs.YtljhfomkakhflaaW.PrintMore Go.Proofs.Ytljhfomkakhflaa.PA
set_option linter.unusedVariables false
set_option linter.unusedSimpArgs false
namespace Q
def cap (a : Int) : Int := if a > 1000000 then 1000000 else a
theorem spec_cap (a : Int) : spec_l19Cap.f a = some (cap a) := by unfold spec_l19Cap.f cap; split <;> rfl
theorem cap_cap {a x : Int} (h : 0 ≤ x) : cap (cap a + x) = cap (a + x) := by
 unfold cap; repeat' split
 all_goals omega
def sOf (D : List Int) (pre : List Int) (a : Int) : Int := pre.foldl (fun a p => a + rd D p) a
theorem sOf_bd {D : List Int} (hb : ∀ x ∈ D, 0 ≤ x ∧ x ≤ 1000000) : ∀ (pre : List Int) (a : Int), (pre.all (fun p => inB p 0 ((D.length : Int) - 1)) = true) → a ≤ sOf D pre a ∧ sOf D pre a ≤ a + 1000000 * pre.length := by
 intro pre
 induction pre with
 | nil => intro a _; simp [sOf]
 | cons p ps ih =>
  intro a hin
  simp only [List.all_cons, Bool.and_eq_true, inB_iff] at hin
  have h1 := rd_bd hb (p := p) (by omega) (by omega)
  have h2 := ih (a + rd D p) hin.2
  have e : sOf D (p :: ps) a = sOf D ps (a + rd D p) := rfl
  rw [e, List.length_cons]
  omega
theorem spec_sInner (l : List Step) (hl : l.length ≤ 1048576) (n : Int) (i : Nat) (hi : i < l.length) (D : List Int) (hD : D.length = i) (hb : ∀ x ∈ D, 0 ≤ x ∧ x ≤ 1000000) (pre : List Int) (hpre : (stp l i).f2 = pre) (hp : pre.length ≤ 1048576)
  (hin : pre.all (fun p => inB p 0 ((i : Int) - 1)) = true) (r : Int) (H : Ev (fun k => spec_TreeSize.l0 k l n (D ++ [cap (sOf D pre 1)]) ((i + 1 : Nat) : Int)) r) :
  Ev (fun k => spec_TreeSize.l1 k l n D i 1 0) r := by
 have key := Ev.up pre.length (fun j (a : Int) k => spec_TreeSize.l1 k l n D i (cap a) j) (fun _ _ => r)
  (fun j a => 1 ≤ a ∧ sOf D (pre.drop j) a = sOf D pre 1) ?_ ?_ 0 1 (Nat.zero_le _) ⟨by omega, rfl⟩
 ·exact key
 ·rintro j a hj ⟨ha, hF⟩ ih
  refine Ev.succ ?_
  have e : rd pre (j : Int) = pre[j] := by simp [rd, hj]
  have hm := inB_iff.1 (List.all_eq_true.1 hin _ (List.getElem_mem hj))
  have hr := rd_bd hb (p := pre[j]) (by omega) (by omega)
  have hc : 0 ≤ cap a ∧ cap a ≤ 1000000 := by unfold cap; split <;> omega
  simp only [spec_TreeSize.l1, show (0 : Int) ≤ (i : Int) by omega, nat_lt, hi, nat_0, ↓reduceIte, ← show stp l i = rd_T58 l i from rfl, hpre, hj, e, show (0 : Int) ≤ pre[j] by omega, show pre[j] < (D.length : Int) by omega,
   w64 (n := cap a + rd D pre[j]) (by omega) (by omega), up_ (show j < 4611686018427387904 by omega), spec_cap, Option.bind_some, cap_cap hr.1]
  rw [List.drop_eq_getElem_cons hj] at hF
  exact ih (a + rd D pre[j]) ⟨by omega, hF⟩
 ·rintro a ⟨ha, hF⟩
  rw [List.drop_length] at hF
  have hF : a = sOf D pre 1 := hF
  refine Ev.succ ?_
  rw [← hF] at H
  simp only [spec_TreeSize.l1, show (0 : Int) ≤ (i : Int) by omega, nat_lt, hi, ↓reduceIte, ← show stp l i = rd_T58 l i from rfl, hpre, Nat.lt_irrefl, show D.length < 17592186044416 by omega,
   up_ (show i < 4611686018427387904 by omega)]
  exact H
def sizeR : List Step → List Int → List Int
 | [], D => D
 | s :: r, D => sizeR r (D ++ [cap (sOf D s.f2 1)])
def sizeB (l : List Step) (n : Int) : Int := if inB n 0 ((l.length : Int) - 1) = true ∧ okFrom l (n.toNat + 1) 0 = true then rd (sizeR (l.take (n.toNat + 1)) []) n else 0
theorem growS {D : List Int} {d : Int} (hb : ∀ x ∈ D, 0 ≤ x ∧ x ≤ 1000000) (hd : 0 ≤ d) : ∀ x ∈ D ++ [cap d], 0 ≤ x ∧ x ≤ 1000000 := by
 intro x hx
 rcases List.mem_append.1 hx with hx | hx
 ·exact hb x hx
 ·rw [List.mem_singleton.1 hx]; unfold cap; split <;> omega
theorem spec_TreeSize (l : List Step) (hl : l.length ≤ 1048576) (hp : ∀ x ∈ l, x.f2.length ≤ 1048576) (n : Int) : Ev (fun k => spec_TreeSize.f k l n) (sizeB l n) := by
 unfold spec_TreeSize.f sizeB
 simp only [spec_in, Option.bind_some, w64 (n := (l.length : Int) - 1) (by omega) (by omega)]
 cases hb : inB n 0 ((l.length : Int) - 1)
 ·simpa using Ev.now 0
 ·have hb' := inB_iff.1 hb
  obtain ⟨m, rfl⟩ := Int.eq_ofNat_of_zero_le hb'.1
  simp only [↓reduceIte, true_and, Int.toNat_natCast]
  have key := Ev.up (m + 1) (fun i (D : List Int) k => spec_TreeSize.l0 k l m D i) (fun i D => if okFrom l (m + 1) i = true then rd (sizeR ((l.take (m + 1)).drop i) D) m else 0)
   (fun i D => D.length = i ∧ ∀ x ∈ D, 0 ≤ x ∧ x ≤ 1000000) ?_ ?_ 0 [] (Nat.zero_le _) ⟨rfl, by simp⟩
  ·exact key
  ·rintro i D hi ⟨hD, hbD⟩ ih
   refine Ev.succ ?_
   have hil : i < l.length := by omega
   simp only [spec_TreeSize.l0, show ((i : Nat) : Int) ≤ (m : Int) by omega, ↓reduceIte]
   refine Ev.bind (spec_StepOk l hl hp i) ?_
   rw [okFrom_lt hi]
   cases hs : stepOkB l i
   ·simpa using Ev.now 0
   ·simp only [↓reduceIte, Bool.true_and]
    have hin := step_pre hil hs
    refine spec_sInner l hl m i hil D hD hbD _ rfl (by rw [stp_mem l i hil]; exact hp _ (List.getElem_mem hil)) hin _ ?_
    have hd := sOf_bd hbD (stp l i).f2 1 (by rw [hD]; exact hin)
    have := ih (D ++ [cap (sOf D (stp l i).f2 1)]) ⟨by simp [hD], growS hbD (by omega)⟩
    rw [List.drop_eq_getElem_cons (by rw [List.length_take]; omega), sizeR, List.getElem_take, ← stp_mem l i hil]
    exact this
  ·rintro D ⟨hD, _⟩
   refine Ev.succ ?_
   simp only [spec_TreeSize.l0, show ¬ (((m + 1 : Nat) : Int) ≤ (m : Int)) by omega, ↓reduceIte, okFrom_ge, show (0 : Int) ≤ (m : Int) by omega, show (m : Int) < (D.length : Int) by omega]
   rw [List.drop_of_length_le (by rw [List.length_take]; omega)]
   exact Ev.now _
end Q
end Go.Proofs.Ytljhfomkakhflaa
