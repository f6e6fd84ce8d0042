/-
How deep a proof is: the reference and the program are one plain function.
-/
import Derived.Test.YtppdmcimddhbaaaKFnExactDeepOfProofPAx0
import Derived.Test.YtppdmcimddhbaaaKFnExactDeepOfProofPAxo
import Derived.Test.YtppdmcimddhbaaaKFnExactDeepOfProofPAx5
import Derived.Test.YtppdmcimddhbaaaKFnExactDeepOfProofPAx7
import Derived.Test.YtppdmcimddhbaaaKFnExactDeepOfProofPAx8
import Derived.Test.YtppdmcimddhbaaaKFnExactDeepOfProofPAx9
import Derived.Test.YtppdmcimddhbaaaKFnExactDeepOfProofQ10
namespace Go.Proofs.Ytppdmcimddhbaaa
open Go.RowKit Go.Proofs.YtppdmcimddhbaaaW.PrintWords Go.Proofs.YtppdmcimddhbaaaW.PrintLast Go.Proofs.YtppdmcimddhbaaaW.PrintMore Go.Proofs.Ytppdmcimddhbaaa.PA
set_option linter.unusedVariables false
set_option linter.unusedSimpArgs false
namespace Q
theorem stp_mem (l : List Step) (i : Nat) (h : i < l.length) : stp l i = l[i] := by simp [stp, rd_T105, h]
def okFrom (l : List Step) (n : Nat) : Nat → Bool := allFrom (fun j => stepOkB l (j : Int)) n
theorem impl_allStepsOk (l : List Step) (hl : l.length ≤ 1048576) (hp : ∀ x ∈ l, x.f2.length ≤ 1048576) (n : Nat) (hn : n ≤ l.length) : Ev (fun k => impl_allStepsOk.f k l ((n : Int) - 1)) (okFrom l n 0) := by
  unfold impl_allStepsOk.f
  refine Ev.up0 n (fun i k => impl_allStepsOk.l0 k l ((n : Int) - 1) i) (fun i => okFrom l n i) ?_ ?_ 0 (Nat.zero_le _)
  · intro i hi ih
    refine Ev.succ ?_
    simp only [impl_allStepsOk.l0, show ((i : Nat) : Int) ≤ (n : Int) - 1 by omega, ↓reduceIte, up_ (show i < 4611686018427387904 by omega)]
    refine Ev.bind (impl_StepOk l hl hp i) ?_
    have e0 : okFrom l n i = (stepOkB l i && okFrom l n (i + 1)) := by unfold okFrom; rw [allFrom_lt hi]
    rw [e0]
    cases stepOkB l i
    · simpa using Ev.now false
    · simpa using ih
  · refine Ev.succ ?_
    simp only [impl_allStepsOk.l0, show ¬ (((n : Nat) : Int) ≤ (n : Int) - 1) by omega, ↓reduceIte]
    unfold okFrom
    rw [allFrom_ge (Nat.lt_irrefl _)]
    exact Ev.now _
def dOf (D : List Int) (pre : List Int) (a : Int) : Int := pre.foldl (fun a p => mx a (rd D p)) a
theorem rd_bd {D : List Int} {B p : Int} (hb : ∀ x ∈ D, 0 ≤ x ∧ x ≤ B) (h0 : 0 ≤ p) (h1 : p < D.length) : 0 ≤ rd D p ∧ rd D p ≤ B := by
  have : rd D p = D[p.toNat]'(by omega) := by simp [rd, show p.toNat < D.length by omega]
  rw [this]
  exact hb _ (List.getElem_mem _)
theorem mx_bd {a b B : Int} (h1 : 0 ≤ a ∧ a ≤ B) (h2 : 0 ≤ b ∧ b ≤ B) : 0 ≤ mx a b ∧ mx a b ≤ B := by unfold mx; split <;> omega
theorem dOf_bd {D : List Int} {B : Int} (hb : ∀ x ∈ D, 0 ≤ x ∧ x ≤ B) : ∀ (pre : List Int) (a : Int), (pre.all (fun p => inB p 0 ((D.length : Int) - 1)) = true) → 0 ≤ a ∧ a ≤ B → 0 ≤ dOf D pre a ∧ dOf D pre a ≤ B := by
  intro pre
  induction pre with
  | nil => intro a _ h; exact h
  | cons p ps ih =>
    intro a hin ha
    simp only [List.all_cons, Bool.and_eq_true, inB_iff] at hin
    exact ih _ hin.2 (mx_bd ha (rd_bd hb (by omega) (by omega)))
theorem spec_dInner (l : List Step) (hl : l.length ≤ 1048576) (i : Nat) (hi : i < l.length) (D : List Int) (hD : D.length = i) (hb : ∀ x ∈ D, 0 ≤ x ∧ x ≤ (i : Int)) (m : Int) (pre : List Int) (hpre : (stp l i).f2 = pre) (hp : pre.length ≤ 1048576)
    (hin : pre.all (fun p => inB p 0 ((i : Int) - 1)) = true) (r : Int) (H : Ev (fun k => spec_DeepOfProof.l0 k l (D ++ [dOf D pre 0 + 1]) (mx m (dOf D pre 0 + 1)) ((i + 1 : Nat) : Int)) r) :
    Ev (fun k => spec_DeepOfProof.l1 k l D m i 1 0) r := by
  have key := Ev.up pre.length (fun j (a : Int) k => spec_DeepOfProof.l1 k l D m i (a + 1) j) (fun _ _ => r)
    (fun j a => (0 ≤ a ∧ a ≤ (i : Int)) ∧ dOf D (pre.drop j) a = dOf D pre 0) ?_ ?_ 0 0 (Nat.zero_le _) ⟨by omega, rfl⟩
  · exact key
  · rintro j a hj ⟨ha, hF⟩ ih
    refine Ev.succ ?_
    have e : rd pre (j : Int) = pre[j] := by simp [rd, hj]
    have hm := inB_iff.1 (List.all_eq_true.1 hin _ (List.getElem_mem hj))
    have hr := rd_bd hb (p := pre[j]) (by omega) (by omega)
    simp only [spec_DeepOfProof.l1, show (0 : Int) ≤ (i : Int) by omega, nat_lt, hi, nat_0, ↓reduceIte, ← show stp l i = rd_T105 l i from rfl, hpre, hj, e, show (0 : Int) ≤ pre[j] by omega, show pre[j] < (D.length : Int) by omega,
      w64 (n := rd D pre[j] + 1) (by omega) (by omega), up_ (show j < 4611686018427387904 by omega)]
    rw [List.drop_eq_getElem_cons hj] at hF
    have ih := ih (mx a (rd D pre[j])) ⟨mx_bd ha hr, hF⟩
    unfold mx at ih
    by_cases h : rd D pre[j] + 1 > a + 1
    · simp only [h, ↓reduceIte]
      simpa only [show a < rd D pre[j] by omega, ↓reduceIte] using ih
    · simp only [h, ↓reduceIte]
      simpa only [show ¬ a < rd D pre[j] by omega, ↓reduceIte] using ih
  · rintro a ⟨ha, hF⟩
    rw [List.drop_length] at hF
    have hF : a = dOf D pre 0 := hF
    refine Ev.succ ?_
    rw [← hF] at H
    simp only [spec_DeepOfProof.l1, show (0 : Int) ≤ (i : Int) by omega, nat_lt, hi, ↓reduceIte, ← show stp l i = rd_T105 l i from rfl, hpre, Nat.lt_irrefl, show D.length < 17592186044416 by omega, Option.bind_some,
      up_ (show i < 4611686018427387904 by omega)]
    unfold mx at H
    by_cases h : a + 1 > m
    · simp only [h, ↓reduceIte]
      simpa only [show m < a + 1 by omega, ↓reduceIte] using H
    · simp only [h, ↓reduceIte]
      simpa only [show ¬ m < a + 1 by omega, ↓reduceIte] using H
theorem impl_dInner (l : List Step) (hl : l.length ≤ 1048576) (i : Nat) (hi : i < l.length) (D : List Int) (hD : D.length = i) (hb : ∀ x ∈ D, 0 ≤ x ∧ x ≤ (i : Int)) (m : Int) (pre : List Int) (hp : pre.length ≤ 1048576)
    (hin : pre.all (fun p => inB p 0 ((i : Int) - 1)) = true) (r : Int) (H : Ev (fun k => impl_DeepOfProof.l0 k (D ++ [dOf D pre 0 + 1]) (mx m (dOf D pre 0 + 1)) l l.length ((i + 1 : Nat) : Int)) r) :
    Ev (fun k => impl_DeepOfProof.l1 k D m 0 l l.length i pre pre.length 0) r := by
  have key := Ev.up pre.length (fun j (a : Int) k => impl_DeepOfProof.l1 k D m a l l.length i pre pre.length j) (fun _ _ => r)
    (fun j a => (0 ≤ a ∧ a ≤ (i : Int)) ∧ dOf D (pre.drop j) a = dOf D pre 0) ?_ ?_ 0 0 (Nat.zero_le _) ⟨by omega, rfl⟩
  · exact key
  · rintro j a hj ⟨ha, hF⟩ ih
    refine Ev.succ ?_
    have e : rd pre (j : Int) = pre[j] := by simp [rd, hj]
    have hm := inB_iff.1 (List.all_eq_true.1 hin _ (List.getElem_mem hj))
    have hr := rd_bd hb (p := pre[j]) (by omega) (by omega)
    simp only [impl_DeepOfProof.l1, nat_lt, nat_0, ↓reduceIte, hj, e, show (0 : Int) ≤ pre[j] by omega, show pre[j] < (D.length : Int) by omega, up_ (show j < 4611686018427387904 by omega)]
    rw [List.drop_eq_getElem_cons hj] at hF
    exact ih (mx a (rd D pre[j])) ⟨mx_bd ha hr, hF⟩
  · rintro a ⟨ha, hF⟩
    rw [List.drop_length] at hF
    have hF : a = dOf D pre 0 := hF
    refine Ev.succ ?_
    rw [← hF] at H
    simp only [impl_DeepOfProof.l1, Int.lt_irrefl, ↓reduceIte, show D.length < 17592186044416 by omega, w64 (n := a + 1) (by omega) (by omega), up_ (show i < 4611686018427387904 by omega)]
    exact H
def deepR : List Step → List Int → Int → Int
  | [], _, m => m
  | s :: r, D, m => deepR r (D ++ [dOf D s.f2 0 + 1]) (mx m (dOf D s.f2 0 + 1))
def deepB (l : List Step) : Int := if okFrom l l.length 0 = true then deepR l [] 0 else 0
theorem step_pre {l : List Step} {i : Nat} (hi : i < l.length) (h : stepOkB l i = true) : (stp l i).f2.all (fun p => inB p 0 ((i : Int) - 1)) = true := by
  unfold stepOkB stepB at h
  simp only [Bool.and_eq_true] at h
  exact h.2.2.2.1
theorem okFrom_lt {l : List Step} {n i : Nat} (h : i < n) : okFrom l n i = (stepOkB l i && okFrom l n (i + 1)) := by unfold okFrom; rw [allFrom_lt h]
theorem okFrom_ge {l : List Step} {n : Nat} : okFrom l n n = true := by unfold okFrom; rw [allFrom_ge (Nat.lt_irrefl _)]
theorem grow {D : List Int} {i : Nat} {d : Int} (hb : ∀ x ∈ D, 0 ≤ x ∧ x ≤ (i : Int)) (hd : 0 ≤ d ∧ d ≤ (i : Int)) : ∀ x ∈ D ++ [d + 1], 0 ≤ x ∧ x ≤ ((i + 1 : Nat) : Int) := by
  intro x hx
  rcases List.mem_append.1 hx with hx | hx
  · have := hb x hx; omega
  · rw [List.mem_singleton.1 hx]; omega
theorem spec_DeepOfProof (l : List Step) (hl : l.length ≤ 1048576) (hp : ∀ x ∈ l, x.f2.length ≤ 1048576) : Ev (fun k => spec_DeepOfProof.f k l) (deepB l) := by
  unfold spec_DeepOfProof.f deepB
  have key := Ev.up l.length (fun i (s : List Int × Int) k => spec_DeepOfProof.l0 k l s.1 s.2 i) (fun i s => if okFrom l l.length i = true then deepR (l.drop i) s.1 s.2 else 0)
    (fun i s => s.1.length = i ∧ ∀ x ∈ s.1, 0 ≤ x ∧ x ≤ (i : Int)) ?_ ?_ 0 ([], 0) (Nat.zero_le _) ⟨rfl, by simp⟩
  · exact key
  · rintro i ⟨D, m⟩ hi ⟨hD, hb⟩ ih
    have hD : D.length = i := hD
    have hb : ∀ x ∈ D, 0 ≤ x ∧ x ≤ (i : Int) := hb
    refine Ev.succ ?_
    simp only [spec_DeepOfProof.l0, nat_lt, hi, ↓reduceIte]
    refine Ev.bind (spec_StepOk l hl hp i) ?_
    rw [okFrom_lt hi]
    cases hs : stepOkB l i
    · simpa using Ev.now 0
    · simp only [↓reduceIte, Bool.true_and]
      have hin := step_pre hi hs
      refine spec_dInner l hl i hi D hD hb m _ rfl (by rw [stp_mem l i hi]; exact hp _ (List.getElem_mem hi)) hin _ ?_
      have hd := dOf_bd hb (stp l i).f2 0 (by rw [hD]; exact hin) (by omega)
      have := ih (D ++ [dOf D (stp l i).f2 0 + 1], mx m (dOf D (stp l i).f2 0 + 1)) ⟨by simp [hD], grow hb hd⟩
      rw [List.drop_eq_getElem_cons hi, deepR, ← stp_mem l i hi]
      exact this
  · rintro ⟨D, m⟩ _
    refine Ev.succ ?_
    simp only [spec_DeepOfProof.l0, nat_lt, Nat.lt_irrefl, ↓reduceIte, okFrom_ge, List.drop_length, deepR]
    exact Ev.now _
theorem impl_DeepOfProof (l : List Step) (hl : l.length ≤ 1048576) (hp : ∀ x ∈ l, x.f2.length ≤ 1048576) : Ev (fun k => impl_DeepOfProof.f k l) (deepB l) := by
  unfold impl_DeepOfProof.f deepB
  rw [w64 (n := (l.length : Int) - 1) (by omega) (by omega)]
  refine Ev.bind (impl_allStepsOk l hl hp l.length (Nat.le_refl _)) ?_
  cases ho : okFrom l l.length 0
  · simpa using Ev.now 0
  · simp only [↓reduceIte]
    have hall : ∀ (i : Nat), i < l.length → stepOkB l i = true := by
      have := (allFrom_iff l.length 0 rfl).1 ho
      exact fun i hi => this i (Nat.zero_le _) hi
    have key := Ev.up l.length (fun i (s : List Int × Int) k => impl_DeepOfProof.l0 k s.1 s.2 l l.length i) (fun i s => deepR (l.drop i) s.1 s.2)
      (fun i s => s.1.length = i ∧ ∀ x ∈ s.1, 0 ≤ x ∧ x ≤ (i : Int)) ?_ ?_ 0 ([], 0) (Nat.zero_le _) ⟨rfl, by simp⟩
    · exact key
    · rintro i ⟨D, m⟩ hi ⟨hD, hb⟩ ih
      have hD : D.length = i := hD
      have hb : ∀ x ∈ D, 0 ≤ x ∧ x ≤ (i : Int) := hb
      refine Ev.succ ?_
      simp only [impl_DeepOfProof.l0, nat_lt, nat_0, hi, ↓reduceIte, ← show stp l i = rd_T105 l i from rfl]
      have hin := step_pre hi (hall i hi)
      refine impl_dInner l hl i hi D hD hb m _ (by rw [stp_mem l i hi]; exact hp _ (List.getElem_mem hi)) hin _ ?_
      have hd := dOf_bd hb (stp l i).f2 0 (by rw [hD]; exact hin) (by omega)
      have := ih (D ++ [dOf D (stp l i).f2 0 + 1], mx m (dOf D (stp l i).f2 0 + 1)) ⟨by simp [hD], grow hb hd⟩
      rw [List.drop_eq_getElem_cons hi, deepR, ← stp_mem l i hi]
      exact this
    · rintro ⟨D, m⟩ _
      refine Ev.succ ?_
      simp only [impl_DeepOfProof.l0, Int.lt_irrefl, ↓reduceIte, List.drop_length, deepR]
      exact Ev.now _
end Q
theorem Pure.FnExactDeepOfProof : ∀ (x0 : List (S115)), All G115 x0 → ∃ k, laws_FnExactDeepOfProof.f k x0 = some true := by
  intro x0 hg
  have hl : x0.length ≤ 9223372036854775807 := hg.1
  have hs : ∀ x ∈ x0, x.f2.length ≤ 9223372036854775807 := fun x hx => (hg.2 x hx).2.2.1
  refine Q.Ev.get (g := fun k => laws_FnExactDeepOfProof.f k x0) ?_
  unfold laws_FnExactDeepOfProof.f
  refine Ev.bind (Q.szStepS x0 hl hs) ?_
  by_cases h1 : x0.length ≤ 1048576
  · simp only [h1, ↓reduceIte]
    by_cases h2 : Q.szFrom x0 (1048576 - x0.length) < 0
    · simp only [h2, ↓reduceIte]; exact Ev.now _
    · simp only [h2, ↓reduceIte]
      have h3 : ∀ x ∈ x0, x.f2.length ≤ 1048576 := fun x hx => by have := Q.szFrom_mem x0 (1048576 - x0.length) (by omega) x hx; omega
      have h4 : (x0.map Q.toSt).length ≤ 1048576 := by rw [List.length_map]; exact h1
      have h5 : ∀ x ∈ x0.map Q.toSt, x.f2.length ≤ 1048576 := by
        intro x hx
        obtain ⟨y, hy, rfl⟩ := List.mem_map.1 hx
        exact h3 y hy
      refine Ev.bind (Q.toStepS _ h1 h3) ?_
      refine Ev.bind (Q.spec_DeepOfProof _ h4 h5) ?_
      refine Ev.bind (Q.toStepS _ h1 h3) ?_
      refine Ev.bind (Q.impl_DeepOfProof _ h4 h5) ?_
      simp only [↓reduceIte]
      refine Ev.bind (Q.toStepS _ h1 h3) ?_
      refine Ev.bind (Q.eqStepS _ h4 h5) ?_
      simp only [↓reduceIte]
      exact Ev.now _
  · simp only [h1, ↓reduceIte, show ((-1 : Int) < 0) by omega]
    exact Ev.now _
end Go.Proofs.Ytppdmcimddhbaaa
