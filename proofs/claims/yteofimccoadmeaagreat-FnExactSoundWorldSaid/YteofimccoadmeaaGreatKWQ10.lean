/-
Steps of a proof: StepOk of the reference (it looks the shown facts up) and of the program (it gathers them) are one plain function; so is that all steps up to one are right.
-/
import Derived.Test.YteofimccoadmeaaGreatKWQ62
namespace Go.Proofs.YteofimccoadmeaaGreat
open Go.RowKit Go.Proofs.YteofimccoadmeaaGreatW.PrintWords Go.Proofs.YteofimccoadmeaaGreatW.PrintLast Go.Proofs.YteofimccoadmeaaGreatW.PrintMore Go.Proofs.YteofimccoadmeaaGreat.PA
set_option linter.unusedVariables false
set_option linter.unusedSimpArgs false
namespace Q
abbrev Fct := S79
abbrev Crd := S83
def stp (l : List Step) (i : Int) : Step := rd_T111 l i
def isF (x : Fct) (a b w : Int) : Bool := (x.f0.f0 == a && x.f0.f1 == b) && x.f1 == w
def kindB (l : List Step) (c : Crd) (who : Int) (pre : List Int) : Bool :=
 if c.f0 = 1 then pre.length == 0 && who == c.f2
 else if c.f0 = 2 then pre.length == 1 && isF (stp l (rd pre 0)).f1 c.f3.f0 c.f3.f1 who
 else if c.f0 = 4 then pre.length == 2 && (isF (stp l (rd pre 0)).f1 c.f3.f0 c.f3.f1 who && isF (stp l (rd pre 1)).f1 c.f4.f0 c.f4.f1 who)
 else pre.length == 2 && (((stp l (rd pre 0)).f1.f0.f0 == c.f3.f0 && (stp l (rd pre 0)).f1.f0.f1 == c.f3.f1) && isF (stp l (rd pre 1)).f1 (stp l (rd pre 0)).f1.f1 c.f4.f1 who)
def stepB (l : List Step) (i : Int) (s : Step) : Bool :=
 credOkB s.f0.f0 s.f0.f1.f0 s.f0.f1.f1 s.f0.f2 s.f0.f3.f0 s.f0.f3.f1 s.f0.f4.f0 s.f0.f4.f1 s.f0.f5 s.f0.f6 && ((s.f1.f0.f0 == s.f0.f1.f0 && s.f1.f0.f1 == s.f0.f1.f1) && (s.f2.all (fun p => inB p 0 (i - 1)) && kindB l s.f0 s.f1.f1 s.f2))
def stepOkB (l : List Step) (i : Int) : Bool := inB i 0 ((l.length : Int) - 1) && stepB l i (stp l i)
theorem Ev.eq {α : Type} {a b : α} (h : a = b) : Ev (fun _ => some a) b := h ▸ Ev.now a
theorem spec_shown (l : List Step) (hl : l.length ≤ 1048576) (i : Int) (h0 : 0 ≤ i) (h1 : i < l.length) (hp : (stp l i).f2.length ≤ 1048576) (a b w : Int) :
  Ev (fun k => spec_l07Shown.f k l i a b w) ((stp l i).f2.any (fun p => inB p 0 (i - 1) && isF (stp l p).f1 a b w)) := by
 unfold spec_l07Shown.f
 have key := Ev.up0 (stp l i).f2.length (fun j k => spec_l07Shown.l0 k l i j a b w) (fun j => ((stp l i).f2.drop j).any (fun p => inB p 0 (i - 1) && isF (stp l p).f1 a b w)) ?_ ?_ 0 (Nat.zero_le _)
 ·exact key
 ·intro j hj ih
  refine Ev.succ ?_
  have e : rd (stp l i).f2 (j : Int) = (stp l i).f2[j] := by simp [rd, hj]
  simp only [spec_l07Shown.l0, h0, h1, ↓reduceIte, ← show stp l i = rd_T111 l i from rfl, nat_lt, hj, nat_0, spec_in, Option.bind_some, e, w64 (n := i - 1) (by omega) (by omega), up_ (show j < 4611686018427387904 by omega)]
  rw [List.drop_eq_getElem_cons hj, List.any_cons]
  cases hb : inB (stp l i).f2[j] 0 (i - 1)
  ·simpa using ih
  ·have hb' := inB_iff.1 hb
   simp only [↓reduceIte, Bool.true_and, show 0 ≤ (stp l i).f2[j] by omega, show (stp l i).f2[j] < (l.length : Int) by omega, ← show stp l (stp l i).f2[j] = rd_T111 l (stp l i).f2[j] from rfl]
   unfold isF at ih ⊢
   cases hc : (((stp l (stp l i).f2[j]).f1.f0.f0 == a && (stp l (stp l i).f2[j]).f1.f0.f1 == b) && (stp l (stp l i).f2[j]).f1.f1 == w)
   ·simpa using ih
   ·simpa using Ev.now true
 ·refine Ev.succ ?_
  simp only [spec_l07Shown.l0, h0, h1, ↓reduceIte, ← show stp l i = rd_T111 l i from rfl, nat_lt, Nat.lt_irrefl, List.drop_length]
  exact Ev.now _
theorem two {l : List Int} (h : l.length = 2) : ∃ a b, l = [a, b] := by
 match l, h with
 | [a, b], _ => exact ⟨a, b, rfl⟩
theorem one {l : List Int} (h : l.length = 1) : ∃ a, l = [a] := by
 match l, h with
 | [a], _ => exact ⟨a, rfl⟩
theorem spec_kind (l : List Step) (hl : l.length ≤ 1048576) (i : Int) (h0 : 0 ≤ i) (h1 : i < l.length) (c : Crd) (who g0 g1 : Int) (pre : List Int) (hpre : (stp l i).f2 = pre) (hp : pre.length ≤ 1048576) (hin : pre.all (fun p => inB p 0 (i - 1)) = true) :
  Ev (fun k => spec_StepOk.l0 k l i pre.length c.f0 c.f1.f0 c.f1.f1 c.f2 c.f3.f0 c.f3.f1 c.f4.f0 c.f4.f1 c.f5 c.f6 g0 g1 who pre c.f0 c.f1.f0 c.f1.f1 c.f2 c.f3.f0 c.f3.f1 c.f4.f0 c.f4.f1 c.f5 c.f6) (kindB l c who pre) := by
 refine Ev.succ ?_
 simp only [spec_StepOk.l0, Int.lt_irrefl, ↓reduceIte]
 unfold kindB
 by_cases k1 : c.f0 = 1
 ·simp only [k1, ↓reduceIte]
  by_cases h : who = c.f2
  ·simp only [h, ↓reduceIte]
   refine Ev.eq ?_
   cases pre with
   | nil => simp
   | cons x xs => simp; omega
  ·simp only [h, ↓reduceIte]
   refine Ev.eq ?_
   simp [h]
 ·simp only [k1, ↓reduceIte]
  by_cases k2 : c.f0 = 2
  ·simp only [k2, ↓reduceIte]
   by_cases h : pre.length = 1
   ·simp only [show ((pre.length : Int) = 1) by omega, ↓reduceIte]
    refine Ev.bind (spec_shown l hl i h0 h1 (by rw [hpre]; exact hp) _ _ _) ?_
    obtain ⟨p, rfl⟩ := one h
    refine Ev.eq ?_
    rw [hpre]
    simp only [List.all_cons, List.all_nil, Bool.and_true] at hin
    simp [hin, rd]
   ·simp only [show ¬ ((pre.length : Int) = 1) by omega, ↓reduceIte]
    refine Ev.eq ?_
    simp [h]
  ·simp only [k2, ↓reduceIte]
   by_cases h : pre.length = 2
   ·obtain ⟨p, q, rfl⟩ := two h
    simp only [List.all_cons, List.all_nil, Bool.and_true, Bool.and_eq_true, inB_iff] at hin
    obtain ⟨hp1, hq1⟩ := hin
    have ep : rd [p, q] 0 = p := by simp [rd]
    have eq' : rd [p, q] 1 = q := by simp [rd]
    simp only [List.length_cons, List.length_nil, ep, eq', show (((0 + 1 + 1 : Nat) : Int) = 2) by omega, show ((0 : Int) < ((0 + 1 + 1 : Nat) : Int)) by omega, show ((1 : Int) < ((0 + 1 + 1 : Nat) : Int)) by omega, ↓reduceIte,
     show 0 ≤ p by omega, show 0 ≤ q by omega, show p < (l.length : Int) by omega, show q < (l.length : Int) by omega, ← show ∀ x, stp l x = rd_T111 l x from fun _ => rfl]
    unfold isF
    by_cases k4 : c.f0 = 4
    ·simp only [k4, ↓reduceIte]
     cases hc : (((stp l p).f1.f0.f0 == c.f3.f0 && (stp l p).f1.f0.f1 == c.f3.f1) && (stp l p).f1.f1 == who)
     ·refine Ev.eq ?_; simp
     ·refine Ev.eq ?_; simp
    ·simp only [k4, ↓reduceIte]
     cases ha : (stp l p).f1.f0.f0 == c.f3.f0
     ·refine Ev.eq ?_; simp
     ·cases hb : (stp l p).f1.f0.f1 == c.f3.f1
      ·refine Ev.eq ?_; simp
      ·refine Ev.eq ?_; simp
   ·have h' : ¬ ((pre.length : Int) = 2) := by omega
    by_cases k4 : c.f0 = 4
    ·simp only [k4, h', ↓reduceIte]; refine Ev.eq ?_; simp [h]
    ·simp only [k4, h', ↓reduceIte]; refine Ev.eq ?_; simp [h]
theorem spec_pre (l : List Step) (hl : l.length ≤ 1048576) (i : Int) (h0 : 0 ≤ i) (h1 : i < l.length) (c : Crd) (who g0 g1 : Int) (pre : List Int) (hpre : (stp l i).f2 = pre) (hp : pre.length ≤ 1048576) :
  Ev (fun k => spec_StepOk.l0 k l i 0 c.f0 c.f1.f0 c.f1.f1 c.f2 c.f3.f0 c.f3.f1 c.f4.f0 c.f4.f1 c.f5 c.f6 g0 g1 who pre c.f0 c.f1.f0 c.f1.f1 c.f2 c.f3.f0 c.f3.f1 c.f4.f0 c.f4.f1 c.f5 c.f6) (pre.all (fun p => inB p 0 (i - 1)) && kindB l c who pre) := by
 have key := Ev.up pre.length (fun j (_ : Unit) k => spec_StepOk.l0 k l i j c.f0 c.f1.f0 c.f1.f1 c.f2 c.f3.f0 c.f3.f1 c.f4.f0 c.f4.f1 c.f5 c.f6 g0 g1 who pre c.f0 c.f1.f0 c.f1.f1 c.f2 c.f3.f0 c.f3.f1 c.f4.f0 c.f4.f1 c.f5 c.f6)
  (fun j _ => (pre.drop j).all (fun p => inB p 0 (i - 1)) && kindB l c who pre) (fun j _ => (pre.take j).all (fun p => inB p 0 (i - 1)) = true) ?_ ?_ 0 () (Nat.zero_le _) (by simp)
 ·exact key
 ·intro j _ hj hs ih
  refine Ev.succ ?_
  have e : rd pre (j : Int) = pre[j] := by simp [rd, hj]
  simp only [spec_StepOk.l0, nat_lt, nat_0, hj, ↓reduceIte, spec_in, Option.bind_some, e, w64 (n := i - 1) (by omega) (by omega), up_ (show j < 4611686018427387904 by omega)]
  rw [List.drop_eq_getElem_cons hj, List.all_cons]
  cases hb : inB pre[j] 0 (i - 1)
  ·simpa using Ev.now false
  ·simp only [↓reduceIte, Bool.true_and]
   exact ih () (by rw [List.take_succ_eq_append_getElem hj, List.all_append, hs]; simp [hb])
 ·intro _ hs
  rw [List.take_length] at hs
  simp only [List.drop_length, List.all_nil, Bool.true_and]
  exact spec_kind l hl i h0 h1 c who g0 g1 pre hpre hp hs
theorem impl_shown_ (l : List Step) (hl : l.length ≤ 1048576) (i : Int) (h0 : 0 ≤ i) (h1 : i < l.length) (p : Int) :
  impl_shown.f l i p = some (if inB p 0 (i - 1) = true then ((stp l p).f1.f0.f0, (stp l p).f1.f0.f1, (stp l p).f1.f1, true) else (0, 0, 0, false)) := by
 unfold impl_shown.f
 simp only [impl_in, Option.bind_some, w64 (n := i - 1) (by omega) (by omega)]
 cases hb : inB p 0 (i - 1)
 ·simp
 ·have := inB_iff.1 hb
  simp only [↓reduceIte, show 0 ≤ p by omega, show p < (l.length : Int) by omega, ← show stp l p = rd_T111 l p from rfl]
theorem impl_pre (l : List Step) (hl : l.length ≤ 1048576) (i : Int) (h0 : 0 ≤ i) (h1 : i < l.length) (c : Crd) (hk : 1 ≤ c.f0 ∧ c.f0 ≤ 4) (who g0 g1 : Int) (pre : List Int) (hp : pre.length ≤ 1048576) :
  Ev (fun k => impl_StepOk.l0 k l i [] pre pre.length 0 c.f0 c.f1.f0 c.f1.f1 c.f2 c.f3.f0 c.f3.f1 c.f4.f0 c.f4.f1 c.f5 c.f6 g0 g1 who pre) (pre.all (fun p => inB p 0 (i - 1)) && kindB l c who pre) := by
 have key := Ev.up pre.length (fun j (a : List Fct) k => impl_StepOk.l0 k l i a pre pre.length j c.f0 c.f1.f0 c.f1.f1 c.f2 c.f3.f0 c.f3.f1 c.f4.f0 c.f4.f1 c.f5 c.f6 g0 g1 who pre)
  (fun j _ => (pre.drop j).all (fun p => inB p 0 (i - 1)) && kindB l c who pre) (fun j a => (pre.take j).all (fun p => inB p 0 (i - 1)) = true ∧ a = (pre.take j).map (fun p => (stp l p).f1)) ?_ ?_ 0 [] (Nat.zero_le _) (by simp)
 ·exact key
 ·rintro j a hj ⟨hs, ha⟩ ih
  refine Ev.succ ?_
  have e : rd pre (j : Int) = pre[j] := by simp [rd, hj]
  have hal : a.length = j := by rw [ha, List.length_map, List.length_take]; omega
  simp only [impl_StepOk.l0, nat_lt, nat_0, hj, ↓reduceIte, e, impl_shown_ l hl i h0 h1, Option.bind_some, up_ (show j < 4611686018427387904 by omega)]
  rw [List.drop_eq_getElem_cons hj, List.all_cons]
  cases hb : inB pre[j] 0 (i - 1)
  ·simpa using Ev.now false
  ·simp only [↓reduceIte, Bool.true_and, show a.length < 5864062014805 by omega]
   exact ih _ ⟨by rw [List.take_succ_eq_append_getElem hj, List.all_append, hs]; simp [hb], by rw [List.take_succ_eq_append_getElem hj, List.map_append, ← ha]; rfl⟩
 ·rintro a ⟨hs, ha⟩
  rw [List.take_length] at hs ha
  simp only [List.drop_length, List.all_nil, Bool.true_and]
  refine Ev.succ ?_
  simp only [impl_StepOk.l0, Int.lt_irrefl, ↓reduceIte]
  have hal : a.length = pre.length := by rw [ha, List.length_map]
  unfold kindB
  by_cases k1 : c.f0 = 1
  ·simp only [k1, ↓reduceIte]
   by_cases h : pre.length = 0
   ·simp only [show ((a.length : Int) = 0) by omega, ↓reduceIte]
    refine Ev.eq ?_; simp [h]
   ·simp only [show ¬ ((a.length : Int) = 0) by omega, ↓reduceIte]
    refine Ev.eq ?_; simp [h]
  ·by_cases k2 : c.f0 = 2
   ·simp only [k2, show ¬ ((2 : Int) = 1) by omega, ↓reduceIte]
    by_cases h : pre.length = 1
    ·simp only [show ((a.length : Int) = 1) by omega, ↓reduceIte, show (0 : Int) < 1 by omega]
     obtain ⟨p, rfl⟩ := one h
     subst ha
     refine Ev.eq ?_; simp [isF, rd_T79, rd]
    ·simp only [show ¬ ((a.length : Int) = 1) by omega, ↓reduceIte]
     refine Ev.eq ?_; simp [h]
   ·by_cases h : pre.length = 2
    ·obtain ⟨p, q, rfl⟩ := two h
     subst ha
     have ep : rd_T79 ([p, q].map (fun p => (stp l p).f1)) 0 = (stp l p).f1 := by simp [rd_T79]
     have eq' : rd_T79 ([p, q].map (fun p => (stp l p).f1)) 1 = (stp l q).f1 := by simp [rd_T79]
     have ep2 : rd [p, q] 0 = p := by simp [rd]
     have eq2 : rd [p, q] 1 = q := by simp [rd]
     simp only [ep, eq', ep2, eq2, hal, List.length_cons, List.length_nil, show (((0 + 1 + 1 : Nat) : Int) = 2) by omega, show ((0 : Int) < ((0 + 1 + 1 : Nat) : Int)) by omega, show ((1 : Int) < ((0 + 1 + 1 : Nat) : Int)) by omega, ↓reduceIte, k1, k2]
     unfold isF
     by_cases k4 : c.f0 = 4
     ·simp only [k4, show ¬ ((4 : Int) = 3) by omega, show (0 : Int) < 2 by omega, show (1 : Int) < 2 by omega, ↓reduceIte]
      cases hc : (((stp l p).f1.f0.f0 == c.f3.f0 && (stp l p).f1.f0.f1 == c.f3.f1) && (stp l p).f1.f1 == who)
      ·refine Ev.eq ?_; simp
      ·refine Ev.eq ?_; simp
     ·have k3 : c.f0 = 3 := by omega
      simp only [k3, show ¬ ((3 : Int) = 4) by omega, show (0 : Int) < 2 by omega, show (1 : Int) < 2 by omega, ↓reduceIte]
      cases hc : ((stp l p).f1.f0.f0 == c.f3.f0 && (stp l p).f1.f0.f1 == c.f3.f1)
      ·refine Ev.eq ?_; simp
      ·refine Ev.eq ?_; simp
    ·have h' : ¬ ((a.length : Int) = 2) := by omega
     by_cases k4 : c.f0 = 4
     ·simp only [k4, h', show ¬ ((4 : Int) = 1) by omega, show ¬ ((4 : Int) = 2) by omega, show ¬ ((4 : Int) = 3) by omega, ↓reduceIte]; refine Ev.eq ?_; simp [h]
     ·have k3 : c.f0 = 3 := by omega
      simp only [k3, h', show ¬ ((3 : Int) = 1) by omega, show ¬ ((3 : Int) = 2) by omega, show ¬ ((3 : Int) = 4) by omega, ↓reduceIte]; refine Ev.eq ?_; simp [h]
theorem spec_StepOk (l : List Step) (hl : l.length ≤ 1048576) (hp : ∀ x ∈ l, x.f2.length ≤ 1048576) (i : Int) : Ev (fun k => spec_StepOk.f k l i) (stepOkB l i) := by
 unfold spec_StepOk.f stepOkB
 simp only [spec_in, Option.bind_some, w64 (n := (l.length : Int) - 1) (by omega) (by omega)]
 cases hb : inB i 0 ((l.length : Int) - 1)
 ·simpa using Ev.now false
 ·have hb' := inB_iff.1 hb
  have h0 : 0 ≤ i := by omega
  have h1 : i < l.length := by omega
  have hmem : stp l i ∈ l := by
   have : stp l i = l[i.toNat]'(by omega) := by simp [stp, rd_T111, show i.toNat < l.length by omega]
   rw [this]; exact List.getElem_mem _
  simp only [↓reduceIte, h0, h1, Bool.true_and, ← show stp l i = rd_T111 l i from rfl]
  refine Ev.bind (spec_CredOk _ _ _ _ _ _ _ _ _ _) ?_
  have key := spec_pre l hl i h0 h1 (stp l i).f0 (stp l i).f1.f1 (stp l i).f1.f0.f0 (stp l i).f1.f0.f1 (stp l i).f2 rfl (hp _ hmem)
  unfold stepB
  cases hc : credOkB (stp l i).f0.f0 (stp l i).f0.f1.f0 (stp l i).f0.f1.f1 (stp l i).f0.f2 (stp l i).f0.f3.f0 (stp l i).f0.f3.f1 (stp l i).f0.f4.f0 (stp l i).f0.f4.f1 (stp l i).f0.f5 (stp l i).f0.f6
  ·simp only [Bool.false_eq_true, ↓reduceIte, Bool.false_and]
   refine Ev.succ ?_
   simp only [spec_StepOk.j0, ↓reduceIte]
   exact Ev.now _
  ·simp only [↓reduceIte, Bool.true_and]
   refine Ev.succ ?_
   cases h4 : ((stp l i).f1.f0.f0 == (stp l i).f0.f1.f0)
   ·simp only [spec_StepOk.j0, Bool.not_false, Bool.true_or, ↓reduceIte, Bool.false_and]; exact Ev.now _
   ·cases h5 : ((stp l i).f1.f0.f1 == (stp l i).f0.f1.f1)
    ·simp only [spec_StepOk.j0, Bool.not_false, Bool.or_true, ↓reduceIte, Bool.and_false, Bool.false_and]; exact Ev.now _
    ·simp only [spec_StepOk.j0, Bool.not_true, Bool.or_self, Bool.false_eq_true, ↓reduceIte, Bool.and_self, Bool.true_and]; exact key
theorem impl_StepOk (l : List Step) (hl : l.length ≤ 1048576) (hp : ∀ x ∈ l, x.f2.length ≤ 1048576) (i : Int) : Ev (fun k => impl_StepOk.f k l i) (stepOkB l i) := by
 unfold impl_StepOk.f stepOkB
 simp only [impl_in, Option.bind_some, w64 (n := (l.length : Int) - 1) (by omega) (by omega)]
 cases hb : inB i 0 ((l.length : Int) - 1)
 ·simpa using Ev.now false
 ·have hb' := inB_iff.1 hb
  have h0 : 0 ≤ i := by omega
  have h1 : i < l.length := by omega
  have hmem : stp l i ∈ l := by
   have : stp l i = l[i.toNat]'(by omega) := by simp [stp, rd_T111, show i.toNat < l.length by omega]
   rw [this]; exact List.getElem_mem _
  simp only [↓reduceIte, h0, h1, Bool.true_and, ← show stp l i = rd_T111 l i from rfl]
  refine Ev.bind (impl_CredOk _ _ _ _ _ _ _ _ _ _) ?_
  unfold stepB
  cases hc : credOkB (stp l i).f0.f0 (stp l i).f0.f1.f0 (stp l i).f0.f1.f1 (stp l i).f0.f2 (stp l i).f0.f3.f0 (stp l i).f0.f3.f1 (stp l i).f0.f4.f0 (stp l i).f0.f4.f1 (stp l i).f0.f5 (stp l i).f0.f6
  ·simp only [Bool.false_eq_true, ↓reduceIte, Bool.false_and]
   refine Ev.succ ?_
   simp only [impl_StepOk.j0, ↓reduceIte]
   exact Ev.now _
  ·have key := impl_pre l hl i h0 h1 (stp l i).f0 (credOk_bounds hc).1 (stp l i).f1.f1 (stp l i).f1.f0.f0 (stp l i).f1.f0.f1 (stp l i).f2 (hp _ hmem)
   simp only [↓reduceIte, Bool.true_and]
   refine Ev.succ ?_
   cases h4 : ((stp l i).f1.f0.f0 == (stp l i).f0.f1.f0)
   ·simp only [impl_StepOk.j0, Bool.not_false, Bool.true_or, ↓reduceIte, Bool.false_and]; exact Ev.now _
   ·cases h5 : ((stp l i).f1.f0.f1 == (stp l i).f0.f1.f1)
    ·simp only [impl_StepOk.j0, Bool.not_false, Bool.or_true, ↓reduceIte, Bool.and_false, Bool.false_and]; exact Ev.now _
    ·simp only [impl_StepOk.j0, Bool.not_true, Bool.or_self, Bool.false_eq_true, ↓reduceIte, Bool.and_self, Bool.true_and]; exact key
end Q
end Go.Proofs.YteofimccoadmeaaGreat
