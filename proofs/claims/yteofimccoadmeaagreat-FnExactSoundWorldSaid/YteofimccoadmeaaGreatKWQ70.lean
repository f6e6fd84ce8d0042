/-
RingOk, of a whole ring: the reference and the program answer the same.
-/
import Derived.Test.YteofimccoadmeaaGreatKWQ69
namespace Go.Proofs.YteofimccoadmeaaGreat
open Go.RowKit Go.Proofs.YteofimccoadmeaaGreatW.PrintWords Go.Proofs.YteofimccoadmeaaGreatW.PrintLast Go.Proofs.YteofimccoadmeaaGreatW.PrintMore Go.Proofs.YteofimccoadmeaaGreat.PA
set_option linter.unusedVariables false
set_option linter.unusedSimpArgs false
namespace Q
theorem spec_At (l : List Per) (h : l.length ≤ 1048576) (x : Int) : ∃ t : Int, Ev (fun k => spec_PeerAt.f k l x) t ∧ ((t = -1 ∧ ∀ q ∈ l, hereB x q = false) ∨ ∃ (j : Nat) (hj : j < l.length), t = j ∧ hereB x l[j] = true ∧ ∀ m (hm : m < j), hereB x (l[m]'(by omega)) = false) := by
 have key : ∀ d i, l.length - i = d → i ≤ l.length → (∀ m (hm : m < l.length), m < i → hereB x l[m] = false) → ∃ t : Int, Ev (fun k => spec_PeerAt.l0 k x i l) t ∧ ((t = -1 ∧ ∀ q ∈ l, hereB x q = false) ∨ ∃ (j : Nat) (hj : j < l.length), t = j ∧ hereB x l[j] = true ∧ ∀ m (hm : m < j), hereB x (l[m]'(by omega)) = false) := by
  intro d
  induction d with
  | zero =>
   intro i h1 h2 h3
   obtain rfl : i = l.length := by omega
   refine ⟨-1, Ev.succ ?_, .inl ⟨rfl, fun q hq => ?_⟩⟩
   ·simp only [spec_PeerAt.l0, nat_lt, Nat.lt_irrefl, ↓reduceIte]; exact Ev.now _
   ·obtain ⟨m, hm, rfl⟩ := List.mem_iff_getElem.1 hq
    exact h3 m hm hm
  | succ d ih =>
   intro i h1 h2 h3
   have hi : i < l.length := by omega
   cases hq : hereB x l[i] with
   | true =>
    have hq2 := hq
    unfold hereB at hq2
    rw [Bool.and_eq_true, beq_iff_eq] at hq2
    refine ⟨i, Ev.succ ?_, .inr ⟨i, hi, rfl, hq, fun m hm => h3 m (by omega) hm⟩⟩
    simp only [spec_PeerAt.l0, nat_lt, nat_0, hi, ↓reduceIte, rdPer l i hi, hq2.1, hq2.2]
    exact Ev.now _
   | false =>
    obtain ⟨t, t1, t2⟩ := ih (i + 1) (by omega) (by omega) (fun m hm h4 => by
     by_cases e : m = i
     ·subst e; exact hq
     ·exact h3 m hm (by omega))
    refine ⟨t, Ev.succ ?_, t2⟩
    simp only [spec_PeerAt.l0, nat_lt, nat_0, hi, ↓reduceIte, rdPer l i hi, up_ (show i < 4611686018427387904 by omega)]
    unfold hereB at hq
    cases h5 : l[i].f1
    ·simp only [Bool.false_eq_true, ↓reduceIte]; exact t1
    ·rw [h5, Bool.true_and, beq_eq_false_iff_ne] at hq
     simp only [hq, ↓reduceIte]; exact t1
 exact key l.length 0 rfl (Nat.zero_le _) (fun m _ hm => absurd hm (Nat.not_lt_zero _))
theorem spec_AtB (l : List Per) (h : l.length ≤ 1048576) (x : Int) : ∃ t : Int, Ev (fun k => spec_PeerAt.f k l x) t ∧ decide (t ≥ 0) = l.any (hereB x) := by
 obtain ⟨t, t1, t2⟩ := spec_At l h x
 refine ⟨t, t1, ?_⟩
 rcases t2 with ⟨rfl, h2⟩ | ⟨j, hj, rfl, h2, _⟩
 ·symm; rw [show decide ((-1 : Int) ≥ 0) = false by decide, List.any_eq_false]; exact fun q hq => by rw [h2 q hq]; decide
 ·rw [decide_eq_true (show (j : Int) ≥ 0 by omega)]; symm; rw [List.any_eq_true]; exact ⟨_, List.getElem_mem hj, h2⟩
def knowsB (l : List Per) (p : Per) : Bool := p.f3.any fun b => l.any (hereB b)
theorem spec_NextFrom (l : List Per) (h : l.length ≤ 1048576) (j : Nat) (hj : j < l.length) (hb : l[j].f3.length ≤ 1048576) :
  ∃ t : Int, Ev (fun k => spec_NextOf.l0 k j 0 l) t ∧ ((∀ b ∈ l[j].f3, 0 ≤ b) → decide (t < 0) = !knowsB l l[j]) := by
 have key : ∀ d i, l[j].f3.length - i = d → i ≤ l[j].f3.length → ∃ t : Int, Ev (fun k => spec_NextOf.l0 k j i l) t ∧ ((∀ b ∈ l[j].f3, 0 ≤ b) → decide (t < 0) = !((l[j].f3.drop i).any fun b => l.any (hereB b))) := by
  intro d
  induction d with
  | zero =>
   intro i h1 h2
   obtain rfl : i = l[j].f3.length := by omega
   refine ⟨-1, Ev.succ ?_, fun _ => by simp⟩
   simp only [spec_NextOf.l0, show (j : Int) ≥ 0 by omega, nat_lt, nat_0, hj, ↓reduceIte, rdPer l j hj, Nat.lt_irrefl, decide_false]
   refine Ev.succ ?_
   simp only [spec_NextOf.j1, Bool.false_eq_true, ↓reduceIte]
   exact Ev.now _
  | succ d ih =>
   intro i h1 h2
   have hi : i < l[j].f3.length := by omega
   obtain ⟨t, t1, t2⟩ := spec_AtB l h l[j].f3[i]
   cases hq : l.any (hereB l[j].f3[i]) with
   | true =>
    rw [hq] at t2
    refine ⟨l[j].f3[i], Ev.succ ?_, fun hp => ?_⟩
    ·simp only [spec_NextOf.l0, show (j : Int) ≥ 0 by omega, nat_lt, nat_0, hj, hi, ↓reduceIte, rdPer l j hj, decide_true]
     refine Ev.succ ?_
     simp only [spec_NextOf.j1, nat_lt, nat_0, hj, hi, ↓reduceIte, rdPer l j hj, rdL _ i hi]
     refine Ev.bind t1 ?_
     simp only [of_decide_eq_true t2, ↓reduceIte]
     exact Ev.now _
    ·rw [any_drop _ _ i hi, hq, Bool.true_or]
     have := hp _ (List.getElem_mem hi)
     exact decide_eq_false (by omega)
   | false =>
    rw [hq] at t2
    obtain ⟨u, u1, u2⟩ := ih (i + 1) (by omega) (by omega)
    refine ⟨u, Ev.succ ?_, fun hp => by rw [u2 hp, any_drop _ _ i hi, hq, Bool.false_or]⟩
    simp only [spec_NextOf.l0, show (j : Int) ≥ 0 by omega, nat_lt, nat_0, hj, hi, ↓reduceIte, rdPer l j hj, decide_true]
    refine Ev.succ ?_
    simp only [spec_NextOf.j1, nat_lt, nat_0, hj, hi, ↓reduceIte, rdPer l j hj, rdL _ i hi]
    refine Ev.bind t1 ?_
    simp only [of_decide_eq_false t2, ↓reduceIte, up_ (show i < 4611686018427387904 by omega)]
    exact u1
 obtain ⟨t, t1, t2⟩ := key l[j].f3.length 0 rfl (Nat.zero_le _)
 exact ⟨t, t1, fun hp => by rw [t2 hp, List.drop_zero]; rfl⟩
theorem spec_Next (l : List Per) (h : OkRing l) (i : Nat) (hi : i < l.length) :
  ∃ t : Int, Ev (fun k => spec_NextOf.f k l l[i].f0) t ∧ (l[i].f1 = true → (∀ m (hm : m < i), (l[m]'(by omega)).f0 ≠ l[i].f0) → (∀ b ∈ l[i].f3, 0 ≤ b) → decide (t < 0) = !knowsB l l[i]) := by
 obtain ⟨t, t1, t2⟩ := spec_At l h.1 l[i].f0
 rcases t2 with ⟨rfl, h2⟩ | ⟨j, hj, rfl, h2, h3⟩
 ·refine ⟨-1, ?_, fun hf _ _ => ?_⟩
  ·unfold spec_NextOf.f
   refine Ev.bind t1 ?_
   refine Ev.succ ?_
   simp only [spec_NextOf.l0, show ¬ ((-1 : Int) ≥ 0) by omega, ↓reduceIte]
   refine Ev.succ ?_
   simp only [spec_NextOf.j1, Bool.false_eq_true, ↓reduceIte]
   exact Ev.now _
  ·have := h2 _ (List.getElem_mem hi)
   unfold hereB at this
   rw [hf, beq_self_eq_true] at this
   cases this
 ·obtain ⟨u, u1, u2⟩ := spec_NextFrom l h.1 j hj (h.2 _ (List.getElem_mem hj)).1
  refine ⟨u, ?_, fun hf hm hb => ?_⟩
  ·unfold spec_NextOf.f
   exact Ev.bind t1 u1
  ·have e : j = i := by
    unfold hereB at h2
    rw [Bool.and_eq_true, beq_iff_eq] at h2
    rcases Nat.lt_trichotomy j i with h4 | h4 | h4
    ·exact absurd h2.2 (hm j h4)
    ·exact h4
    ·have := h3 i h4
     unfold hereB at this
     rw [hf, beq_self_eq_true] at this
     cases this
   subst e
   exact u2 hb
def dupB (l : List Per) (i : Nat) : Bool := (l.take i).any fun q => q.f0 == (rd_T68 l i).f0
def ringAt (l : List Per) (i : Nat) : Bool := peerB (rd_T68 l i) && ((decide (4 ≤ i) || (rd_T68 l i).f1) && ((!(rd_T68 l i).f1 || knowsB l (rd_T68 l i)) && !dupB l i))
theorem ringAt_eq (l : List Per) (i : Nat) : ringAt l i = (peerB (rd_T68 l i) && ((decide (4 ≤ i) || (rd_T68 l i).f1) && ((!(rd_T68 l i).f1 || knowsB l (rd_T68 l i)) && !dupB l i))) := rfl
def ringB (l : List Per) : Bool := inB l.length 4 8 && allFrom (ringAt l) l.length 0
theorem peer_behind {p : Per} (h : peerB p = true) (hf : p.f1 = true) : ∀ b ∈ p.f3, 0 ≤ b := by
 intro b hb
 unfold peerB at h
 rw [hf, if_pos rfl] at h
 simp only [Bool.and_eq_true] at h
 have := List.all_eq_true.1 h.2.2.1 b hb
 unfold plB at this
 simp only [Bool.and_eq_true, decide_eq_true_eq] at this
 exact this.1.1
theorem spec_dup (l : List Per) (h : l.length ≤ 1048576) (i : Nat) (hi : i < l.length) (p0 : Int) (p1 : Bool) (p2 : Int) (p3 p4 : List Int) (p5 : List Shf) (R : Bool) (hN : Ev (fun k => spec_RingOk.l0 k ((i + 1 : Nat) : Int) l) R) :
  Ev (fun k => spec_RingOk.l1 k i 0 l p0 p1 p2 p3 p4 p5) (!((l.take i).any fun q => q.f0 == p0) && R) := by
 refine Ev.up0 i (fun m k => spec_RingOk.l1 k i m l p0 p1 p2 p3 p4 p5) (fun m => !(((l.take i).drop m).any fun q => q.f0 == p0) && R) ?_ ?_ 0 (Nat.zero_le _)
 ·intro m hm ih
  have hml : m < l.length := by omega
  have hmt : m < (l.take i).length := by rw [List.length_take]; omega
  refine Ev.succ ?_
  rw [any_drop _ _ m hmt, List.getElem_take]
  simp only [spec_RingOk.l1, nat_lt, nat_0, hm, hml, ↓reduceIte, rdPer l m hml, up_ (show m < 4611686018427387904 by omega)]
  by_cases e : l[m].f0 = p0
  ·simp only [e, ↓reduceIte, beq_self_eq_true, Bool.true_or, Bool.not_true, Bool.false_and]; exact Ev.now _
  ·simp only [e, ↓reduceIte, show (l[m].f0 == p0) = false by simpa using e, Bool.false_or]; exact ih
 ·refine Ev.succ ?_
  have e : (l.take i).drop i = [] := List.drop_of_length_le (by rw [List.length_take]; omega)
  simp only [spec_RingOk.l1, nat_lt, Nat.lt_irrefl, ↓reduceIte, e, List.any_nil, Bool.not_false, Bool.true_and, up_ (show i < 4611686018427387904 by omega)]
  exact hN
theorem spec_Ring (l : List Per) (h : OkRing l) : Ev (fun k => spec_RingOk.f k l) (ringB l) := by
 have hl := h.1
 unfold spec_RingOk.f ringB
 simp only [spec_in, Option.bind_some]
 cases inB (l.length : Int) 4 8
 ·simp only [Bool.false_eq_true, ↓reduceIte, Bool.false_and]; exact Ev.now _
 simp only [↓reduceIte, Bool.true_and]
 refine Ev.up0 l.length (fun i k => spec_RingOk.l0 k i l) (fun i => allFrom (ringAt l) l.length i) ?_ ?_ 0 (Nat.zero_le _)
 ·intro i hi ih
  refine Ev.succ ?_
  rw [allFrom_lt hi]
  simp only [spec_RingOk.l0, nat_lt, nat_0, hi, ↓reduceIte]
  have J : ∀ b : Bool, Ev (fun k => spec_RingOk.j1 k i b l (rd_T68 l i).f0 (rd_T68 l i).f1 (rd_T68 l i).f2 (rd_T68 l i).f3 (rd_T68 l i).f4 (rd_T68 l i).f5) (!b && (!dupB l i && allFrom (ringAt l) l.length (i + 1))) := by
   intro b
   refine Ev.succ ?_
   cases b
   ·simp only [spec_RingOk.j1, Bool.false_eq_true, ↓reduceIte, Bool.not_false, Bool.true_and]
    exact spec_dup l hl i hi _ _ _ _ _ _ _ ih
   ·simp only [spec_RingOk.j1, ↓reduceIte, Bool.not_true, Bool.false_and]; exact Ev.now _
  have hp : OkPer (rd_T68 l i) := by rw [rdPer l i hi]; exact h.2 _ (List.getElem_mem hi)
  refine Ev.bind (spec_Peer _ hp) ?_
  rw [ringAt_eq l i]
  cases hB : peerB (rd_T68 l i)
  ·simp only [Bool.false_eq_true, ↓reduceIte, Bool.false_and]; exact J true
  simp only [↓reduceIte, Bool.true_and]
  cases hf : (rd_T68 l i).f1
  ·rw [hf] at J
   by_cases h4 : i < 4
   ·simp only [show (i : Int) < 4 by omega, ↓reduceIte, Bool.false_eq_true, show ¬ (4 ≤ i) by omega, decide_false, Bool.false_or, Bool.false_and]
    exact J true
   ·simp only [show ¬ ((i : Int) < 4) by omega, ↓reduceIte, Bool.false_eq_true, show (4 ≤ i) by omega, decide_true, Bool.true_or, Bool.true_and, Bool.not_false]
    exact J false
  ·rw [hf] at J
   obtain ⟨t, t1, t2⟩ := spec_Next l h i hi
   rw [← rdPer l i hi] at t1 t2
   have e : ((!false || true) && ((!true || knowsB l (rd_T68 l i)) && !dupB l i) && allFrom (ringAt l) l.length (i + 1)) = (!decide (t < 0) && (!dupB l i && allFrom (ringAt l) l.length (i + 1))) := by
    cases hd : dupB l i
    ·have := t2 hf (fun m hm => by
      intro e
      unfold dupB at hd
      rw [List.any_eq_false] at hd
      refine hd (l[m]'(by omega)) ?_ (by simpa using e)
      rw [List.mem_take_iff_getElem]
      exact ⟨m, by omega, rfl⟩) (peer_behind hB hf)
     rw [this]; simp
    ·simp
   have e2 : ∀ c : Bool, ((c || true) && ((!true || knowsB l (rd_T68 l i)) && !dupB l i) && allFrom (ringAt l) l.length (i + 1)) = (!decide (t < 0) && (!dupB l i && allFrom (ringAt l) l.length (i + 1))) := by
    intro c; rw [← e]; simp
   by_cases h4 : i < 4
   ·simp only [show (i : Int) < 4 by omega, ↓reduceIte]
    rw [e2]
    exact Ev.bind t1 (J _)
   ·simp only [show ¬ ((i : Int) < 4) by omega, ↓reduceIte]
    rw [e2]
    exact Ev.bind t1 (J _)
 ·refine Ev.succ ?_
  simp only [spec_RingOk.l0, nat_lt, Nat.lt_irrefl, ↓reduceIte]
  rw [allFrom_ge (Nat.lt_irrefl _)]
  exact Ev.now _
theorem hasP (q : Per → Option Bool) (p : Per → Bool) (hq : ∀ x, q x = some (p x)) (l : List Per) (h : l.length ≤ 1048576) : Ev (fun k => impl_Peer_44.f k l q) (l.any p) := by
 have key : ∀ d i, l.length - i = d → i ≤ l.length → ∃ j : Int, Ev (fun k => impl_Peer_72.l0 k l q l.length i) j ∧ decide (j ≥ 0) = (l.drop i).any p := by
  intro d
  induction d with
  | zero =>
   intro i h1 h2
   obtain rfl : i = l.length := by omega
   refine ⟨-1, Ev.succ ?_, by simp⟩
   simp only [impl_Peer_72.l0, nat_lt, Nat.lt_irrefl, ↓reduceIte]
   exact Ev.now _
  | succ d ih =>
   intro i h1 h2
   have hi : i < l.length := by omega
   have eta : (⟨l[i].f0, l[i].f1, l[i].f2, l[i].f3, l[i].f4, l[i].f5⟩ : Per) = l[i] := rfl
   cases hp : p l[i] with
   | true =>
    refine ⟨i, Ev.succ ?_, by rw [any_drop _ l i hi, hp]; simp⟩
    simp only [impl_Peer_72.l0, nat_lt, nat_0, hi, ↓reduceIte, rdPer l i hi, eta, hq, hp, Option.bind_some]
    exact Ev.now _
   | false =>
    obtain ⟨j, j1, j2⟩ := ih (i + 1) (by omega) (by omega)
    refine ⟨j, Ev.succ ?_, by rw [j2, any_drop _ l i hi, hp, Bool.false_or]⟩
    simp only [impl_Peer_72.l0, nat_lt, nat_0, hi, ↓reduceIte, rdPer l i hi, eta, hq, hp, Option.bind_some, Bool.false_eq_true, up_ (show i < 4611686018427387904 by omega)]
    exact j1
 obtain ⟨j, j1, j2⟩ := key l.length 0 rfl (Nat.zero_le _)
 unfold impl_Peer_44.f
 refine Ev.bind (show Ev (fun k => impl_Peer_72.f k l q) j from j1) ?_
 rw [List.drop_zero] at j2
 rw [← j2]
 exact Ev.now _
theorem impl_Knows (l : List Per) (h : l.length ≤ 1048576) (x0 : Int) (x1 : Bool) (x2 : Int) (x3 x4 : List Int) (x5 : List Shf) (h3 : x3.length ≤ 1048576) : Ev (fun k => impl_knowsOne.f k l x0 x1 x2 x3 x4 x5) (x3.any fun b => l.any (hereB b)) := by
 unfold impl_knowsOne.f
 refine Ev.bind (hasI _ (fun b => l.any (hereB b)) (fun x => ?_) x3 h3) (Ev.now _)
 unfold clo70
 rw [if_pos h]
theorem impl_Ring (l : List Per) (h : OkRing l) : Ev (fun k => impl_RingOk.f k l) (ringB l) := by
 have hl := h.1
 unfold impl_RingOk.f ringB
 simp only [impl_in, Option.bind_some]
 cases inB (l.length : Int) 4 8
 ·simp only [Bool.false_eq_true, ↓reduceIte, Bool.false_and]; exact Ev.now _
 simp only [↓reduceIte, Bool.true_and]
 refine Ev.up0 l.length (fun i k => impl_RingOk.l0 k l l.length i l) (fun i => allFrom (ringAt l) l.length i) ?_ ?_ 0 (Nat.zero_le _)
 ·intro i hi ih
  refine Ev.succ ?_
  rw [allFrom_lt hi]
  simp only [impl_RingOk.l0, nat_lt, nat_0, hi, ↓reduceIte]
  have J : ∀ b : Bool, Ev (fun k => impl_RingOk.j1 k i l l.length i b l (rd_T68 l i).f0 (rd_T68 l i).f1 (rd_T68 l i).f2 (rd_T68 l i).f3 (rd_T68 l i).f4 (rd_T68 l i).f5) (!b && (!dupB l i && allFrom (ringAt l) l.length (i + 1))) := by
   intro b
   refine Ev.succ ?_
   cases b
   ·simp only [impl_RingOk.j1, Bool.false_eq_true, ↓reduceIte, Bool.not_false, Bool.true_and, nat_0, show (i : Int) ≤ (l.length : Int) by omega, Int.toNat_natCast]
    refine Ev.bind (hasP _ (fun q => q.f0 == (rd_T68 l i).f0) (fun x => rfl) (l.take i) (by rw [List.length_take]; omega)) ?_
    unfold dupB
    cases ((l.take i).any fun q => q.f0 == (rd_T68 l i).f0)
    ·simp only [Bool.false_eq_true, ↓reduceIte, Bool.not_false, Bool.true_and, up_ (show i < 4611686018427387904 by omega)]; exact ih
    ·simp only [↓reduceIte, Bool.not_true, Bool.false_and]; exact Ev.now _
   ·simp only [impl_RingOk.j1, ↓reduceIte, Bool.not_true, Bool.false_and]; exact Ev.now _
  have hp : OkPer (rd_T68 l i) := by rw [rdPer l i hi]; exact h.2 _ (List.getElem_mem hi)
  refine Ev.bind (impl_Peer _ hp) ?_
  rw [ringAt_eq l i]
  cases hB : peerB (rd_T68 l i)
  ·simp only [Bool.false_eq_true, ↓reduceIte, Bool.false_and]; exact J true
  simp only [↓reduceIte, Bool.true_and]
  have hk := fun b => impl_Knows l hl (rd_T68 l i).f0 b (rd_T68 l i).f2 (rd_T68 l i).f3 (rd_T68 l i).f4 (rd_T68 l i).f5 hp.1
  cases hf : (rd_T68 l i).f1
  ·rw [hf] at J
   by_cases h4 : i < 4
   ·simp only [show (i : Int) < 4 by omega, ↓reduceIte, Bool.false_eq_true, show ¬ (4 ≤ i) by omega, decide_false, Bool.false_or, Bool.false_and]
    exact J true
   ·simp only [show ¬ ((i : Int) < 4) by omega, ↓reduceIte, Bool.false_eq_true, show (4 ≤ i) by omega, decide_true, Bool.true_or, Bool.true_and, Bool.not_false]
    exact J false
  ·rw [hf] at J
   have e2 : ∀ c : Bool, ((c || true) && ((!true || knowsB l (rd_T68 l i)) && !dupB l i) && allFrom (ringAt l) l.length (i + 1)) = (!(!knowsB l (rd_T68 l i)) && (!dupB l i && allFrom (ringAt l) l.length (i + 1))) := by
    intro c; simp [Bool.and_assoc]
   by_cases h4 : i < 4
   ·simp only [show (i : Int) < 4 by omega, ↓reduceIte]
    rw [e2]
    exact Ev.bind (hk true) (J _)
   ·simp only [show ¬ ((i : Int) < 4) by omega, ↓reduceIte]
    rw [e2]
    exact Ev.bind (hk true) (J _)
 ·refine Ev.succ ?_
  simp only [impl_RingOk.l0, nat_lt, Nat.lt_irrefl, ↓reduceIte]
  rw [allFrom_ge (Nat.lt_irrefl _)]
  exact Ev.now _
theorem spec_SW (w0 : List Per) (w1 : Int) (w2 : List Int) (said w4 : List Crd) (ans : List Answ) (fs : List Fct) (w7 : List Int) (hr : OkRing w0) (hs : said.length ≤ 1048576) (ha : OkAnss ans) :
  Ev (fun k => spec_SoundWorld.f k w0 w1 w2 said w4 ans fs w7) (ringB w0 && soundB said ans fs) := by
 unfold spec_SoundWorld.f
 refine Ev.bind (spec_Ring w0 hr) ?_
 cases ringB w0
 ·simp only [Bool.false_eq_true, ↓reduceIte, Bool.false_and]; exact Ev.now _
 ·simp only [↓reduceIte, Bool.true_and]
  exact Ev.bind (spec_Sound_ _ _ _ said _ _ _ _ hs ha) (Ev.now _)
theorem impl_SW (w0 : List Per) (w1 : Int) (w2 : List Int) (said w4 : List Crd) (ans : List Answ) (fs : List Fct) (w7 : List Int) (hr : OkRing w0) (hs : said.length ≤ 1048576) (ha : OkAnss ans) :
  Ev (fun k => impl_SoundWorld.f k w0 w1 w2 said w4 ans fs w7) (ringB w0 && soundB said ans fs) := by
 unfold impl_SoundWorld.f
 refine Ev.bind (impl_Ring w0 hr) ?_
 cases ringB w0
 ·simp only [Bool.false_eq_true, ↓reduceIte, Bool.false_and]; exact Ev.now _
 ·simp only [↓reduceIte, Bool.true_and]
  exact Ev.bind (impl_Sound_ _ _ _ said _ _ _ _ hs ha) (Ev.now _)
end Q
end Go.Proofs.YteofimccoadmeaaGreat
