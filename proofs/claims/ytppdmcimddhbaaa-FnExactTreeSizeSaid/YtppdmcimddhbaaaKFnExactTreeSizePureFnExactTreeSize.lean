/-
How big a proof's tree is: the reference (it caps at each step) and the program (it caps each sum) are one plain function.
-/
import Derived.Test.YtppdmcimddhbaaaKFnExactTreeSizePAx0
import Derived.Test.YtppdmcimddhbaaaKFnExactTreeSizePAxo
import Derived.Test.YtppdmcimddhbaaaKFnExactTreeSizePAx10
import Derived.Test.YtppdmcimddhbaaaKFnExactTreeSizePAx9
import Derived.Test.YtppdmcimddhbaaaKFnExactTreeSizePureFnExactDeepOfProof
namespace Go.Proofs.Ytppdmcimddhbaaa
open Go.RowKit Go.Proofs.YtppdmcimddhbaaaW.PrintWords Go.Proofs.YtppdmcimddhbaaaW.PrintLast Go.Proofs.YtppdmcimddhbaaaW.PrintMore Go.Proofs.Ytppdmcimddhbaaa.PA
set_option linter.unusedVariables false
set_option linter.unusedSimpArgs false
namespace Q
def cap (a : Int) : Int := if a > 1000000 then 1000000 else a
theorem spec_cap (a : Int) : spec_l19Cap.f a = some (cap a) := by unfold spec_l19Cap.f cap; split <;> rfl
theorem mn_cap (a : Int) : mn a 1000000 = cap a := by rfl
theorem cap_cap {a x : Int} (h : 0 ≤ x) : cap (cap a + x) = cap (a + x) := by
  unfold cap; repeat' split
  all_goals omega
def sOf (D : List Int) (pre : List Int) (a : Int) : Int := pre.foldl (fun a p => a + rd D p) a
theorem sOf_bd {D : List Int} (hb : ∀ x ∈ D, 0 ≤ x ∧ x ≤ 1000000) : ∀ (pre : List Int) (a : Int), (pre.all (fun p => inB p 0 ((D.length : Int) - 1)) = true) → a ≤ sOf D pre a ∧ sOf D pre a ≤ a + 1000000 * pre.length := by
  intro pre
  induction pre with
  | nil => intro a _; simp [sOf]
  | cons p ps ih =>
    intro a hin
    simp only [List.all_cons, Bool.and_eq_true, inB_iff] at hin
    have h1 := rd_bd hb (p := p) (by omega) (by omega)
    have h2 := ih (a + rd D p) hin.2
    have e : sOf D (p :: ps) a = sOf D ps (a + rd D p) := rfl
    rw [e, List.length_cons]
    omega
theorem spec_sInner (l : List Step) (hl : l.length ≤ 1048576) (n : Int) (i : Nat) (hi : i < l.length) (D : List Int) (hD : D.length = i) (hb : ∀ x ∈ D, 0 ≤ x ∧ x ≤ 1000000) (pre : List Int) (hpre : (stp l i).f2 = pre) (hp : pre.length ≤ 1048576)
    (hin : pre.all (fun p => inB p 0 ((i : Int) - 1)) = true) (r : Int) (H : Ev (fun k => spec_TreeSize.l0 k l n (D ++ [cap (sOf D pre 1)]) ((i + 1 : Nat) : Int)) r) :
    Ev (fun k => spec_TreeSize.l1 k l n D i 1 0) r := by
  have key := Ev.up pre.length (fun j (a : Int) k => spec_TreeSize.l1 k l n D i (cap a) j) (fun _ _ => r)
    (fun j a => 1 ≤ a ∧ sOf D (pre.drop j) a = sOf D pre 1) ?_ ?_ 0 1 (Nat.zero_le _) ⟨by omega, rfl⟩
  · exact key
  · rintro j a hj ⟨ha, hF⟩ ih
    refine Ev.succ ?_
    have e : rd pre (j : Int) = pre[j] := by simp [rd, hj]
    have hm := inB_iff.1 (List.all_eq_true.1 hin _ (List.getElem_mem hj))
    have hr := rd_bd hb (p := pre[j]) (by omega) (by omega)
    have hc : 0 ≤ cap a ∧ cap a ≤ 1000000 := by unfold cap; split <;> omega
    simp only [spec_TreeSize.l1, show (0 : Int) ≤ (i : Int) by omega, nat_lt, hi, nat_0, ↓reduceIte, ← show stp l i = rd_T105 l i from rfl, hpre, hj, e, show (0 : Int) ≤ pre[j] by omega, show pre[j] < (D.length : Int) by omega,
      w64 (n := cap a + rd D pre[j]) (by omega) (by omega), up_ (show j < 4611686018427387904 by omega), spec_cap, Option.bind_some, cap_cap hr.1]
    rw [List.drop_eq_getElem_cons hj] at hF
    exact ih (a + rd D pre[j]) ⟨by omega, hF⟩
  · rintro a ⟨ha, hF⟩
    rw [List.drop_length] at hF
    have hF : a = sOf D pre 1 := hF
    refine Ev.succ ?_
    rw [← hF] at H
    simp only [spec_TreeSize.l1, show (0 : Int) ≤ (i : Int) by omega, nat_lt, hi, ↓reduceIte, ← show stp l i = rd_T105 l i from rfl, hpre, Nat.lt_irrefl, show D.length < 17592186044416 by omega,
      up_ (show i < 4611686018427387904 by omega)]
    exact H
theorem impl_sInner (y : List Step) (n : Int) (i : Nat) (hi' : i < 1048576) (D : List Int) (hD : D.length = i) (hb : ∀ x ∈ D, 0 ≤ x ∧ x ≤ 1000000) (pre : List Int) (hp : pre.length ≤ 1048576)
    (hin : pre.all (fun p => inB p 0 ((i : Int) - 1)) = true) (r : Int) (H : Ev (fun k => impl_TreeSize.l0 k n (D ++ [cap (sOf D pre 1)]) y y.length ((i + 1 : Nat) : Int)) r) :
    Ev (fun k => impl_TreeSize.l1 k n D 1 y y.length i pre pre.length 0) r := by
  have key := Ev.up pre.length (fun j (a : Int) k => impl_TreeSize.l1 k n D a y y.length i pre pre.length j) (fun _ _ => r)
    (fun j a => (1 ≤ a ∧ a ≤ 1 + 1000000 * (j : Int)) ∧ sOf D (pre.drop j) a = sOf D pre 1) ?_ ?_ 0 1 (Nat.zero_le _) ⟨by omega, rfl⟩
  · exact key
  · rintro j a hj ⟨ha, hF⟩ ih
    refine Ev.succ ?_
    have e : rd pre (j : Int) = pre[j] := by simp [rd, hj]
    have hm := inB_iff.1 (List.all_eq_true.1 hin _ (List.getElem_mem hj))
    have hr := rd_bd hb (p := pre[j]) (by omega) (by omega)
    simp only [impl_TreeSize.l1, nat_lt, nat_0, ↓reduceIte, hj, e, show (0 : Int) ≤ pre[j] by omega, show pre[j] < (D.length : Int) by omega, w64 (n := a + rd D pre[j]) (by omega) (by omega), up_ (show j < 4611686018427387904 by omega)]
    rw [List.drop_eq_getElem_cons hj] at hF
    exact ih (a + rd D pre[j]) ⟨by omega, hF⟩
  · rintro a ⟨ha, hF⟩
    rw [List.drop_length] at hF
    have hF : a = sOf D pre 1 := hF
    refine Ev.succ ?_
    rw [← hF] at H
    simp only [impl_TreeSize.l1, Int.lt_irrefl, ↓reduceIte, show D.length < 17592186044416 by omega, mn_cap, up_ (show i < 4611686018427387904 by omega)]
    exact H
def sizeR : List Step → List Int → List Int
  | [], D => D
  | s :: r, D => sizeR r (D ++ [cap (sOf D s.f2 1)])
def sizeB (l : List Step) (n : Int) : Int := if inB n 0 ((l.length : Int) - 1) = true ∧ okFrom l (n.toNat + 1) 0 = true then rd (sizeR (l.take (n.toNat + 1)) []) n else 0
theorem growS {D : List Int} {d : Int} (hb : ∀ x ∈ D, 0 ≤ x ∧ x ≤ 1000000) (hd : 0 ≤ d) : ∀ x ∈ D ++ [cap d], 0 ≤ x ∧ x ≤ 1000000 := by
  intro x hx
  rcases List.mem_append.1 hx with hx | hx
  · exact hb x hx
  · rw [List.mem_singleton.1 hx]; unfold cap; split <;> omega
theorem spec_TreeSize (l : List Step) (hl : l.length ≤ 1048576) (hp : ∀ x ∈ l, x.f2.length ≤ 1048576) (n : Int) : Ev (fun k => spec_TreeSize.f k l n) (sizeB l n) := by
  unfold spec_TreeSize.f sizeB
  simp only [spec_in, Option.bind_some, w64 (n := (l.length : Int) - 1) (by omega) (by omega)]
  cases hb : inB n 0 ((l.length : Int) - 1)
  · simpa using Ev.now 0
  · have hb' := inB_iff.1 hb
    obtain ⟨m, rfl⟩ := Int.eq_ofNat_of_zero_le hb'.1
    simp only [↓reduceIte, true_and, Int.toNat_natCast]
    have key := Ev.up (m + 1) (fun i (D : List Int) k => spec_TreeSize.l0 k l m D i) (fun i D => if okFrom l (m + 1) i = true then rd (sizeR ((l.take (m + 1)).drop i) D) m else 0)
      (fun i D => D.length = i ∧ ∀ x ∈ D, 0 ≤ x ∧ x ≤ 1000000) ?_ ?_ 0 [] (Nat.zero_le _) ⟨rfl, by simp⟩
    · exact key
    · rintro i D hi ⟨hD, hbD⟩ ih
      refine Ev.succ ?_
      have hil : i < l.length := by omega
      simp only [spec_TreeSize.l0, show ((i : Nat) : Int) ≤ (m : Int) by omega, ↓reduceIte]
      refine Ev.bind (spec_StepOk l hl hp i) ?_
      rw [okFrom_lt hi]
      cases hs : stepOkB l i
      · simpa using Ev.now 0
      · simp only [↓reduceIte, Bool.true_and]
        have hin := step_pre hil hs
        refine spec_sInner l hl m i hil D hD hbD _ rfl (by rw [stp_mem l i hil]; exact hp _ (List.getElem_mem hil)) hin _ ?_
        have hd := sOf_bd hbD (stp l i).f2 1 (by rw [hD]; exact hin)
        have := ih (D ++ [cap (sOf D (stp l i).f2 1)]) ⟨by simp [hD], growS hbD (by omega)⟩
        rw [List.drop_eq_getElem_cons (by rw [List.length_take]; omega), sizeR, List.getElem_take, ← stp_mem l i hil]
        exact this
    · rintro D ⟨hD, _⟩
      refine Ev.succ ?_
      simp only [spec_TreeSize.l0, show ¬ (((m + 1 : Nat) : Int) ≤ (m : Int)) by omega, ↓reduceIte, okFrom_ge, show (0 : Int) ≤ (m : Int) by omega, show (m : Int) < (D.length : Int) by omega]
      rw [List.drop_of_length_le (by rw [List.length_take]; omega)]
      exact Ev.now _
theorem impl_TreeSize (l : List Step) (hl : l.length ≤ 1048576) (hp : ∀ x ∈ l, x.f2.length ≤ 1048576) (n : Int) : Ev (fun k => impl_TreeSize.f k l n) (sizeB l n) := by
  unfold impl_TreeSize.f sizeB
  simp only [impl_in, Option.bind_some, w64 (n := (l.length : Int) - 1) (by omega) (by omega)]
  cases hb : inB n 0 ((l.length : Int) - 1)
  · simp only [Bool.false_eq_true, ↓reduceIte, false_and]
    refine Ev.succ ?_
    simp only [impl_TreeSize.j0, ↓reduceIte]
    exact Ev.now _
  · have hb' := inB_iff.1 hb
    obtain ⟨m, rfl⟩ := Int.eq_ofNat_of_zero_le hb'.1
    simp only [↓reduceIte, true_and, Int.toNat_natCast]
    have ha := impl_allStepsOk l hl hp (m + 1) (by omega)
    rw [show ((m + 1 : Nat) : Int) - 1 = (m : Int) by omega] at ha
    refine Ev.bind ha ?_
    refine Ev.succ ?_
    cases ho : okFrom l (m + 1) 0
    · simp only [impl_TreeSize.j0, Bool.not_false, Bool.false_eq_true, ↓reduceIte]; exact Ev.now _
    · simp only [impl_TreeSize.j0, Bool.not_true, Bool.false_eq_true, ↓reduceIte, w64 (n := (m : Int) + 1) (by omega) (by omega), show (0 : Int) ≤ (m : Int) + 1 by omega, show (m : Int) + 1 ≤ (l.length : Int) by omega, Option.bind_some,
        show ((m : Int) + 1).toNat = m + 1 by omega]
      have hall : ∀ (i : Nat), i < m + 1 → stepOkB l i = true := by
        have := (allFrom_iff (m + 1) 0 rfl).1 ho
        exact fun i hi => this i (Nat.zero_le _) hi
      have hlen : (l.take (m + 1)).length = m + 1 := by rw [List.length_take]; omega
      have key := Ev.up (m + 1) (fun i (D : List Int) k => impl_TreeSize.l0 k m D (l.take (m + 1)) (l.take (m + 1)).length i) (fun i D => rd (sizeR ((l.take (m + 1)).drop i) D) m)
        (fun i D => D.length = i ∧ ∀ x ∈ D, 0 ≤ x ∧ x ≤ 1000000) ?_ ?_ 0 [] (Nat.zero_le _) ⟨rfl, by simp⟩
      · exact key
      · rintro i D hi ⟨hD, hbD⟩ ih
        have hil : i < l.length := by omega
        have hit : i < (l.take (m + 1)).length := by omega
        have es : stp (l.take (m + 1)) i = stp l i := by rw [stp_mem _ i hit, stp_mem l i hil, List.getElem_take]
        refine Ev.succ ?_
        simp only [impl_TreeSize.l0, nat_lt, nat_0, hit, ↓reduceIte, ← show stp (l.take (m + 1)) i = rd_T105 (l.take (m + 1)) i from rfl, es]
        have hin := step_pre hil (hall i hi)
        refine impl_sInner (l.take (m + 1)) m i (by omega) D hD hbD _ (by rw [stp_mem l i hil]; exact hp _ (List.getElem_mem hil)) hin _ ?_
        have hd := sOf_bd hbD (stp l i).f2 1 (by rw [hD]; exact hin)
        have := ih (D ++ [cap (sOf D (stp l i).f2 1)]) ⟨by simp [hD], growS hbD (by omega)⟩
        rw [List.drop_eq_getElem_cons hit, sizeR, List.getElem_take, ← stp_mem l i hil]
        exact this
      · rintro D ⟨hD, _⟩
        refine Ev.succ ?_
        simp only [impl_TreeSize.l0, hlen, Int.lt_irrefl, ↓reduceIte, show (0 : Int) ≤ (m : Int) by omega, show (m : Int) < (D.length : Int) by omega]
        rw [List.drop_of_length_le (by omega)]
        exact Ev.now _
end Q
theorem Pure.FnExactTreeSize : ∀ (x0 : List (S115)) (x1 : Int), All G115 x0 → I64 x1 → ∃ k, laws_FnExactTreeSize.f k x0 x1 = some true := by
  intro x0 x1 hg _
  have hl : x0.length ≤ 9223372036854775807 := hg.1
  have hs : ∀ x ∈ x0, x.f2.length ≤ 9223372036854775807 := fun x hx => (hg.2 x hx).2.2.1
  refine Q.Ev.get (g := fun k => laws_FnExactTreeSize.f k x0 x1) ?_
  unfold laws_FnExactTreeSize.f
  refine Ev.bind (Q.szStepS x0 hl hs) ?_
  by_cases h1 : x0.length ≤ 1048576
  · simp only [h1, ↓reduceIte]
    by_cases h2 : Q.szFrom x0 (1048576 - x0.length) < 0
    · simp only [h2, ↓reduceIte]; exact Ev.now _
    · simp only [h2, ↓reduceIte]
      have h3 : ∀ x ∈ x0, x.f2.length ≤ 1048576 := fun x hx => by have := Q.szFrom_mem x0 (1048576 - x0.length) (by omega) x hx; omega
      have h4 : (x0.map Q.toSt).length ≤ 1048576 := by rw [List.length_map]; exact h1
      have h5 : ∀ x ∈ x0.map Q.toSt, x.f2.length ≤ 1048576 := by
        intro x hx
        obtain ⟨y, hy, rfl⟩ := List.mem_map.1 hx
        exact h3 y hy
      refine Ev.bind (Q.toStepS _ h1 h3) ?_
      refine Ev.bind (Q.spec_TreeSize _ h4 h5 x1) ?_
      refine Ev.bind (Q.toStepS _ h1 h3) ?_
      refine Ev.bind (Q.impl_TreeSize _ h4 h5 x1) ?_
      simp only [↓reduceIte]
      refine Ev.bind (Q.toStepS _ h1 h3) ?_
      refine Ev.bind (Q.eqStepS _ h4 h5) ?_
      simp only [↓reduceIte]
      exact Ev.now _
  · simp only [h1, ↓reduceIte, show ((-1 : Int) < 0) by omega]
    exact Ev.now _
end Go.Proofs.Ytppdmcimddhbaaa
