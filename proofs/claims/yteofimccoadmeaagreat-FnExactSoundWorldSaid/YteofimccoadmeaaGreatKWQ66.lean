/-
Sound, in the reference and in the program: both answer the same of a life.
-/
import Derived.Test.YteofimccoadmeaaGreatKWQ65
namespace Go.Proofs.YteofimccoadmeaaGreat
open Go.RowKit Go.Proofs.YteofimccoadmeaaGreatW.PrintWords Go.Proofs.YteofimccoadmeaaGreatW.PrintLast Go.Proofs.YteofimccoadmeaaGreatW.PrintMore Go.Proofs.YteofimccoadmeaaGreat.PA
set_option linter.unusedVariables false
set_option linter.unusedSimpArgs false
namespace Q
abbrev Answ := S73
theorem isC_iff (x y : Crd) : isC x y = true ↔ x = y := by
 obtain ⟨a, ⟨b, c⟩, d, ⟨e, f⟩, ⟨g, h⟩, i, j⟩ := x
 obtain ⟨a', ⟨b', c'⟩, d', ⟨e', f'⟩, ⟨g', h'⟩, i', j'⟩ := y
 simp [isC, and_assoc]
theorem isC_comm (x y : Crd) : isC x y = isC y x := by
 rw [Bool.eq_iff_iff, isC_iff, isC_iff, eq_comm]
def saidB (l : List Crd) (c : Crd) : Bool := l.any fun y => isC c y
def addCr (acc : List Crd) (c : Crd) : List Crd := if saidB acc c = true then acc else acc ++ [c]
def crFrom (acc : List Crd) (l : List Step) : List Crd := l.foldl (fun a s => addCr a s.f0) acc
def crOf (l : List Step) : List Crd := crFrom [] l
theorem addCr_len (acc : List Crd) (c : Crd) : (addCr acc c).length ≤ acc.length + 1 := by
 unfold addCr; split
 ·omega
 ·simp
theorem crFrom_len : ∀ (l : List Step) (acc : List Crd), (crFrom acc l).length ≤ acc.length + l.length := by
 intro l
 induction l with
 | nil => intro acc; simp [crFrom]
 | cons s l ih =>
  intro acc
  have h1 := ih (addCr acc s.f0)
  have h2 := addCr_len acc s.f0
  simp only [crFrom, List.foldl_cons, List.length_cons] at h1 ⊢
  omega
theorem crOf_len (l : List Step) : (crOf l).length ≤ l.length := by have := crFrom_len l []; simp only [List.length_nil] at this; unfold crOf; omega
theorem crFrom_drop (l : List Step) (acc : List Crd) (i : Nat) (h : i < l.length) : crFrom acc (l.drop i) = crFrom (addCr acc l[i].f0) (l.drop (i + 1)) := by
 rw [List.drop_eq_getElem_cons h]; rfl
theorem rdStep (l : List Step) (i : Nat) (h : i < l.length) : rd_T111 l (i : Int) = l[i] := by unfold rd_T111; simp [h]
theorem rdCrd (l : List Crd) (i : Nat) (h : i < l.length) : rd_T83 l (i : Int) = l[i] := by unfold rd_T83; simp [h]
theorem eta_c (c : Crd) : (⟨c.f0, ⟨c.f1.f0, c.f1.f1⟩, c.f2, ⟨c.f3.f0, c.f3.f1⟩, ⟨c.f4.f0, c.f4.f1⟩, c.f5, c.f6⟩ : Crd) = c := rfl
theorem spec_crIn (l : List Step) (acc : List Crd) (ha : acc.length ≤ 1048576) (i : Nat) (hi : i < l.length) (hl : l.length ≤ 1048576) (R : List Crd)
  (hN : Ev (fun k => spec_CredsIn.l0 k l (addCr acc l[i].f0) ((i + 1 : Nat) : Int)) R) : Ev (fun k => spec_CredsIn.l1 k l acc i false 0) R := by
 refine Ev.up acc.length (fun j (b : Bool) k => spec_CredsIn.l1 k l acc i b j) (fun _ _ => R) (fun j b => (b || (acc.drop j).any fun y => isC l[i].f0 y) = saidB acc l[i].f0) ?_ ?_ 0 false (Nat.zero_le _) (by simp [saidB])
 ·intro j b hj hb ih
  refine Ev.succ ?_
  have hd : (acc.drop j).any (fun y => isC l[i].f0 y) = (isC l[i].f0 acc[j] || (acc.drop (j + 1)).any fun y => isC l[i].f0 y) := by rw [List.drop_eq_getElem_cons hj, List.any_cons]
  cases b
  ·simp only [spec_CredsIn.l1, nat_lt, nat_0, hj, hi, ↓reduceIte, rdStep l i hi, rdCrd acc j hj, Bool.false_eq_true, up_ (show j < 4611686018427387904 by omega)]
   refine ih (isC acc[j] l[i].f0) ?_
   rw [isC_comm, ← hb, hd, Bool.false_or]
  ·simp only [spec_CredsIn.l1, nat_lt, hj, ↓reduceIte, up_ (show j < 4611686018427387904 by omega)]
   refine ih true ?_
   rw [← hb, Bool.true_or, Bool.true_or]
 ·intro b hb
  refine Ev.succ ?_
  rw [List.drop_length, List.any_nil, Bool.or_false] at hb
  unfold addCr at hN
  rw [← hb] at hN
  cases b
  ·simp only [spec_CredsIn.l1, nat_lt, nat_0, hi, Nat.lt_irrefl, ↓reduceIte, rdStep l i hi, Bool.false_eq_true, up_ (show i < 4611686018427387904 by omega), show acc.length < 1759218604441 by omega, eta_c] at hN ⊢
   exact hN
  ·simp only [spec_CredsIn.l1, nat_lt, Nat.lt_irrefl, ↓reduceIte, up_ (show i < 4611686018427387904 by omega)] at hN ⊢
   exact hN
theorem spec_CredsIn (l : List Step) (hl : l.length ≤ 1048576) : Ev (fun k => spec_CredsIn.f k l) (crOf l) := by
 unfold spec_CredsIn.f
 refine Ev.up l.length (fun i (acc : List Crd) k => spec_CredsIn.l0 k l acc i) (fun i acc => crFrom acc (l.drop i)) (fun i acc => acc.length ≤ i) ?_ ?_ 0 [] (Nat.zero_le _) (by simp)
 ·intro i acc hi ha ih
  refine Ev.succ ?_
  simp only [spec_CredsIn.l0, nat_lt, hi, ↓reduceIte]
  rw [crFrom_drop l acc i hi]
  exact spec_crIn l acc (by omega) i hi hl _ (ih _ (by have := addCr_len acc l[i].f0; omega))
 ·intro acc ha
  refine Ev.succ ?_
  simp only [spec_CredsIn.l0, nat_lt, Nat.lt_irrefl, ↓reduceIte, List.drop_length]
  exact Ev.now _
theorem containsC (l : List Crd) (hl : l.length ≤ 1048576) (x : Crd) : Ev (fun k => impl_Cred_51.f k l x.f0 x.f1.f0 x.f1.f1 x.f2 x.f3.f0 x.f3.f1 x.f4.f0 x.f4.f1 x.f5 x.f6) (saidB l x) := by
 obtain ⟨k, hk⟩ := has28 l hl x
 exact Ev.of (fun k => impl_Cred_51.mono _ _ _ _ _ _ _ _ _ _ _ k) hk
theorem impl_CredsIn (l : List Step) (hl : l.length ≤ 1048576) : Ev (fun k => impl_CredsIn.f k l) (crOf l) := by
 unfold impl_CredsIn.f
 refine Ev.up l.length (fun i (acc : List Crd) k => impl_CredsIn.l0 k acc l l.length i) (fun i acc => crFrom acc (l.drop i)) (fun i acc => acc.length ≤ i) ?_ ?_ 0 [] (Nat.zero_le _) (by simp)
 ·intro i acc hi ha ih
  refine Ev.succ ?_
  simp only [impl_CredsIn.l0, nat_lt, nat_0, hi, ↓reduceIte, rdStep l i hi, eta_c, up_ (show i < 4611686018427387904 by omega), show acc.length < 1759218604441 by omega]
  rw [crFrom_drop l acc i hi]
  refine Ev.bind (containsC acc (by omega) l[i].f0) ?_
  have e := ih _ (show (addCr acc l[i].f0).length ≤ i + 1 by have := addCr_len acc l[i].f0; omega)
  unfold addCr at e ⊢
  cases hb : saidB acc l[i].f0
  ·rw [hb] at e; simp only [Bool.false_eq_true, ↓reduceIte] at e ⊢; exact e
  ·rw [hb] at e; simp only [↓reduceIte] at e ⊢; exact e
 ·intro acc ha
  refine Ev.succ ?_
  simp only [impl_CredsIn.l0, nat_lt, Nat.lt_irrefl, ↓reduceIte, List.drop_length]
  exact Ev.now _
def mnF (a : Int) (c : Crd) : Int := if c.f5 < a then c.f5 else a
theorem mnF_le : ∀ (l : List Crd) (a : Int), l.foldl mnF a ≤ a ∧ ∀ c ∈ l, l.foldl mnF a ≤ c.f5 := by
 intro l
 induction l with
 | nil => intro a; simp
 | cons x l ih =>
  intro a
  obtain ⟨h1, h2⟩ := ih (mnF a x)
  have h3 : mnF a x ≤ a ∧ mnF a x ≤ x.f5 := by unfold mnF; split <;> omega
  simp only [List.foldl_cons]
  refine ⟨by omega, ?_⟩
  intro c hc
  rcases List.mem_cons.mp hc with rfl | h
  ·omega
  ·exact h2 c h
theorem spec_Least (l : List Crd) (hl : l.length ≤ 1048576) : ∃ m, Ev (fun k => spec_l16Least.f k l) m ∧ ∀ c ∈ l, m ≤ c.f5 := by
 refine ⟨l.foldl mnF 10000, ?_, (mnF_le l 10000).2⟩
 unfold spec_l16Least.f
 refine Ev.up l.length (fun i (a : Int) k => spec_l16Least.l0 k l a i) (fun i a => (l.drop i).foldl mnF a) (fun _ _ => True) ?_ ?_ 0 10000 (Nat.zero_le _) trivial
 ·intro i a hi _ ih
  refine Ev.succ ?_
  simp only [spec_l16Least.l0, nat_lt, nat_0, hi, ↓reduceIte, rdCrd l i hi, up_ (show i < 4611686018427387904 by omega)]
  rw [List.drop_eq_getElem_cons hi, List.foldl_cons]
  have e := ih (mnF a l[i]) trivial
  unfold mnF at e ⊢
  by_cases h : l[i].f5 < a
  ·simp only [h, ↓reduceIte] at e ⊢; exact e
  ·simp only [h, ↓reduceIte] at e ⊢; exact e
 ·intro a _
  refine Ev.succ ?_
  simp only [spec_l16Least.l0, nat_lt, Nat.lt_irrefl, ↓reduceIte, List.drop_length]
  exact Ev.now _
theorem impl_least1 (l : List Crd) (hl : l.length ≤ 1048576) (i0 : Nat) (h0 : 1 ≤ i0) (h1 : i0 ≤ l.length) (a : Int) : Ev (fun k => impl_leastUntil.l0 k a l l.length i0) ((l.drop i0).foldl mnF a) := by
 refine Ev.up l.length (fun i (a : Int) k => impl_leastUntil.l0 k a l l.length i) (fun i a => (l.drop i).foldl mnF a) (fun i _ => 1 ≤ i) ?_ ?_ i0 a h1 h0
 ·intro i a hi h0 ih
  refine Ev.succ ?_
  simp only [impl_leastUntil.l0, nat_lt, nat_0, hi, ↓reduceIte, rdCrd l i hi, up_ (show i < 4611686018427387904 by omega), show ¬ ((i : Int) = 0) by omega]
  rw [List.drop_eq_getElem_cons hi, List.foldl_cons]
  have e := ih (mnF a l[i]) (by omega)
  unfold mnF at e ⊢
  by_cases h : l[i].f5 < a
  ·simp only [h, ↓reduceIte] at e ⊢; exact e
  ·simp only [h, ↓reduceIte] at e ⊢; exact e
 ·intro a _
  refine Ev.succ ?_
  simp only [impl_leastUntil.l0, nat_lt, Nat.lt_irrefl, ↓reduceIte, List.drop_length]
  exact Ev.now _
theorem impl_Least (l : List Crd) (hl : l.length ≤ 1048576) : ∃ m, Ev (fun k => impl_leastUntil.f k l) m ∧ ∀ c ∈ l, m ≤ c.f5 := by
 cases hq : l with
 | nil =>
  refine ⟨0, ?_, by simp⟩
  unfold impl_leastUntil.f
  refine Ev.succ ?_
  simp only [impl_leastUntil.l0, List.length_nil, Int.natCast_zero, Int.lt_irrefl, ↓reduceIte]
  exact Ev.now _
 | cons x t =>
  refine ⟨t.foldl mnF x.f5, ?_, ?_⟩
  ·unfold impl_leastUntil.f
   refine Ev.succ ?_
   have hp : (0 : Int) < ((x :: t).length : Int) := by simp only [List.length_cons]; omega
   have hr : rd_T83 (x :: t) 0 = x := rfl
   simp only [impl_leastUntil.l0, hp, Int.le_refl, ↓reduceIte, hr, show wrap64 (0 + 1) = ((1 : Nat) : Int) by unfold wrap64; omega]
   have e := impl_least1 l hl 1 (by omega) (by rw [hq]; simp) x.f5
   rw [hq] at e
   exact e
  ·intro c hc
   have h := mnF_le t x.f5
   rcases List.mem_cons.mp hc with rfl | h2
   ·exact h.1
   ·exact h.2 c h2
theorem alive_len (l : List Crd) (m : Int) (h : ∀ c ∈ l, m ≤ c.f5) : (((aliveC m l).length : Int) == (l.length : Int)) = l.all cOk := by
 have e : aliveC m l = l.filter cOk := by
  unfold aliveC
  refine List.filter_congr fun c hc => ?_
  rw [decide_eq_true (show c.f5 ≥ m from h c hc), Bool.and_true]
 rw [e, Bool.eq_iff_iff, beq_iff_eq, Int.ofNat_inj, List.length_filter_eq_length_iff, List.all_eq_true]
def proofB (l : List Step) (a b w : Int) : Bool := (inB l.length 1 200 && isF (stp l ((l.length : Int) - 1)).f1 a b w) && allFrom (fun j => stepOkB l (j : Int)) l.length 0
def ansB (l : List Step) (told : Bool) (a b w : Int) : Bool := if told = true then proofB l a b w && (crOf l).all cOk else (l.length : Int) == 0
theorem spec_ProofOkB (l : List Step) (hl : l.length ≤ 1048576) (hp : ∀ x ∈ l, x.f2.length ≤ 1048576) (a b w : Int) : Ev (fun k => spec_ProofOk.f k l a b w) (proofB l a b w) := by
 unfold spec_ProofOk.f proofB
 rw [w64 (by omega) (by omega)]
 simp only [spec_in, Option.bind_some]
 cases hb : inB (l.length : Int) 1 200
 ·simp only [Bool.false_eq_true, ↓reduceIte, Bool.false_and]
  refine Ev.succ ?_
  simp only [spec_ProofOk.j0, ↓reduceIte]
  exact Ev.now _
 ·have hh := inB_iff.1 hb
  simp only [↓reduceIte, Bool.true_and, show (0 : Int) ≤ (l.length : Int) - 1 by omega, show (l.length : Int) - 1 < (l.length : Int) by omega]
  refine Ev.succ ?_
  show Ev (fun k => spec_ProofOk.j0 (k + 1) l l.length ((!((stp l ((l.length : Int) - 1)).f1.f0.f0 == a) || !((stp l ((l.length : Int) - 1)).f1.f0.f1 == b)) || !((stp l ((l.length : Int) - 1)).f1.f1 == w))) _
  have e : ((!((stp l ((l.length : Int) - 1)).f1.f0.f0 == a) || !((stp l ((l.length : Int) - 1)).f1.f0.f1 == b)) || !((stp l ((l.length : Int) - 1)).f1.f1 == w)) = !isF (stp l ((l.length : Int) - 1)).f1 a b w := by
   unfold isF; simp only [Bool.not_and]
  rw [e]
  simp only [spec_ProofOk.j0]
  cases isF (stp l ((l.length : Int) - 1)).f1 a b w
  ·simp only [Bool.not_false, ↓reduceIte, Bool.false_and]; exact Ev.now _
  ·simp only [Bool.not_true, Bool.false_eq_true, ↓reduceIte, Bool.true_and]
   refine Ev.up0 l.length (fun i k => spec_ProofOk.l0 k l l.length i) (fun i => allFrom (fun j => stepOkB l (j : Int)) l.length i) (fun i hi ih => ?_) ?_ 0 (Nat.zero_le _)
   ·refine Ev.succ ?_
    simp only [spec_ProofOk.l0, nat_lt, hi, ↓reduceIte]
    refine Ev.bind (spec_StepOk l hl hp (i : Int)) ?_
    rw [allFrom_lt hi]
    cases stepOkB l (i : Int)
    ·simp only [Bool.false_eq_true, ↓reduceIte, Bool.false_and]; exact Ev.now _
    ·simp only [↓reduceIte, Bool.true_and, up_ (show i < 4611686018427387904 by omega)]; exact ih
   ·refine Ev.succ ?_
    simp only [spec_ProofOk.l0, Int.lt_irrefl, ↓reduceIte]
    rw [allFrom_ge (Nat.lt_irrefl _)]
    exact Ev.now _
theorem impl_ProofOkB (l : List Step) (hl : l.length ≤ 1048576) (hp : ∀ x ∈ l, x.f2.length ≤ 1048576) (a b w : Int) : Ev (fun k => impl_ProofOk.f k l a b w) (proofB l a b w) := by
 unfold impl_ProofOk.f proofB
 simp only [impl_in, Option.bind_some]
 cases hb : inB (l.length : Int) 1 200
 ·simp only [Bool.false_eq_true, ↓reduceIte, Bool.false_and]; exact Ev.now _
 ·have hh := inB_iff.1 hb
  simp only [↓reduceIte, Bool.true_and]
  refine Ev.up0 l.length (fun i k => impl_ProofOk.l0 k l w l.length i a b) (fun i => isF (stp l ((l.length : Int) - 1)).f1 a b w && allFrom (fun j => stepOkB l (j : Int)) l.length i) (fun i hi ih => ?_) ?_ 0 (Nat.zero_le _)
  ·refine Ev.succ ?_
   simp only [impl_ProofOk.l0, nat_lt, hi, ↓reduceIte]
   refine Ev.bind (impl_StepOk l hl hp (i : Int)) ?_
   rw [allFrom_lt hi]
   cases stepOkB l (i : Int)
   ·simp only [Bool.false_eq_true, ↓reduceIte, Bool.false_and, Bool.and_false]; exact Ev.now _
   ·simp only [↓reduceIte, Bool.true_and, up_ (show i < 4611686018427387904 by omega)]; exact ih
  ·refine Ev.succ ?_
   simp only [impl_ProofOk.l0, Int.lt_irrefl, ↓reduceIte]
   rw [w64 (by omega) (by omega)]
   simp only [show (0 : Int) ≤ (l.length : Int) - 1 by omega, show (l.length : Int) - 1 < (l.length : Int) by omega, ↓reduceIte]
   rw [allFrom_ge (Nat.lt_irrefl _), Bool.and_true]
   exact Ev.now _
theorem spec_Answer (told : Bool) (l : List Step) (n : Int) (p q : Bool) (a b w m : Int) (hl : l.length ≤ 1048576) (hp : ∀ x ∈ l, x.f2.length ≤ 1048576) (hm : ∀ c ∈ crOf l, m ≤ c.f5) :
  Ev (fun k => spec_AnswerOk.f k told l n p q a b w m) (ansB l told a b w) := by
 unfold spec_AnswerOk.f ansB
 cases told
 ·simp only [Bool.false_eq_true, ↓reduceIte]; exact Ev.now _
 ·simp only [↓reduceIte]
  refine Ev.bind (spec_CredsIn l hl) ?_
  refine Ev.bind (spec_ProofOkB l hl hp a b w) ?_
  cases proofB l a b w
  ·simp only [Bool.false_eq_true, ↓reduceIte, Bool.false_and]; exact Ev.now _
  ·simp only [↓reduceIte, Bool.true_and]
   refine Ev.bind (spec_AliveC (crOf l) m (by have := crOf_len l; omega)) ?_
   rw [alive_len _ _ hm]
   exact Ev.now _
theorem impl_Answer (told : Bool) (l : List Step) (n : Int) (p q : Bool) (a b w m : Int) (hl : l.length ≤ 1048576) (hp : ∀ x ∈ l, x.f2.length ≤ 1048576) (hm : ∀ c ∈ crOf l, m ≤ c.f5) :
  Ev (fun k => impl_AnswerOk.f k told l n p q a b w m) (ansB l told a b w) := by
 unfold impl_AnswerOk.f ansB
 cases told
 ·simp only [Bool.false_eq_true, ↓reduceIte]; exact Ev.now _
 ·simp only [↓reduceIte]
  refine Ev.bind (impl_CredsIn l hl) ?_
  refine Ev.bind (impl_ProofOkB l hl hp a b w) ?_
  cases proofB l a b w
  ·simp only [Bool.false_eq_true, ↓reduceIte, Bool.false_and]; exact Ev.now _
  ·simp only [↓reduceIte, Bool.true_and]
   refine Ev.bind (impl_AliveC (crOf l) m (by have := crOf_len l; omega)) ?_
   rw [alive_len _ _ hm]
   exact Ev.now _
end Q
end Go.Proofs.YteofimccoadmeaaGreat
