/-
RingOk: the reference and the program answer the same of a ring.
-/
import Derived.Test.YteofimccoadmeaaGreatKWQ68
namespace Go.Proofs.YteofimccoadmeaaGreat
open Go.RowKit Go.Proofs.YteofimccoadmeaaGreatW.PrintWords Go.Proofs.YteofimccoadmeaaGreatW.PrintLast Go.Proofs.YteofimccoadmeaaGreatW.PrintMore Go.Proofs.YteofimccoadmeaaGreat.PA
set_option linter.unusedVariables false
set_option linter.unusedSimpArgs false
namespace Q
theorem plB_eq (x : Int) : plB x = inB x 0 255 := by unfold plB inB; simp
theorem spec_place (x : Int) : spec_l01In.f x 0 255 = some (plB x) := by rw [spec_in, plB_eq]
theorem impl_place (x : Int) : impl_isPlace.f x = some (plB x) := by unfold impl_isPlace.f; rw [impl_in, plB_eq]; rfl
def itemOk (l : List Itm) (i : Nat) : Bool := decide ((rd_T131 l i).f0.size ≤ 600) && (decide (i = 0) || Op.bytesLess (rd_T131 l ((i : Int) - 1)).f0.toList (rd_T131 l i).f0.toList)
def itemsB (l : List Itm) : Bool := decide (l.length ≤ 300) && allFrom (itemOk l) l.length 0
theorem spec_Items (l : List Itm) (h : l.length ≤ 1048576) : Ev (fun k => spec_l09Items.f k l) (itemsB l) := by
 unfold spec_l09Items.f itemsB
 refine Ev.up0 l.length (fun i k => spec_l09Items.l0 k l i) (fun i => decide (l.length ≤ 300) && allFrom (itemOk l) l.length i) ?_ ?_ 0 (Nat.zero_le _)
 ·intro i hi ih
  refine Ev.succ ?_
  rw [allFrom_lt hi]
  simp only [spec_l09Items.l0, nat_lt, nat_0, hi, ↓reduceIte, up_ (show i < 4611686018427387904 by omega), down_ (show i < 4611686018427387904 by omega)]
  by_cases h1 : (rd_T131 l i).f0.size ≤ 600
  ·have h2 : ¬ (((rd_T131 l i).f0.size : Int) > 600) := by omega
   simp only [h2, ↓reduceIte]
   by_cases h3 : i = 0
   ·subst h3
    have e : itemOk l 0 = true := by unfold itemOk; rw [decide_eq_true h1]; simp
    simp only [e, Bool.true_and, show ¬ (((0 : Nat) : Int) > 0) by omega, ↓reduceIte]
    exact ih
   ·simp only [show (i : Int) > 0 by omega, show (0 : Int) ≤ (i : Int) - 1 by omega, show (i : Int) - 1 < (l.length : Int) by omega, ↓reduceIte]
    cases hb : Op.bytesLess (rd_T131 l ((i : Int) - 1)).f0.toList (rd_T131 l i).f0.toList
    ·have e : itemOk l i = false := by unfold itemOk; simp [h3, hb]
     simp only [e, Bool.false_and, Bool.and_false, Bool.false_eq_true, ↓reduceIte]
     exact Ev.now _
    ·have e : itemOk l i = true := by unfold itemOk; simp [h1, hb]
     simp only [e, Bool.true_and, ↓reduceIte]
     exact ih
  ·have h2 : (((rd_T131 l i).f0.size : Int) > 600) := by omega
   have e : itemOk l i = false := by unfold itemOk; simp [h1]
   simp only [h2, e, Bool.false_and, Bool.and_false, ↓reduceIte]
   exact Ev.now _
 ·refine Ev.succ ?_
  simp only [spec_l09Items.l0, nat_lt, Nat.lt_irrefl, ↓reduceIte]
  rw [allFrom_ge (Nat.lt_irrefl _), Bool.and_true]
  exact Ev.eq (by simp; omega)
def shelfOk (l : List Shf) (i : Nat) : Bool := plB (rd_T108 l i).f0 && ((decide (i = 0) || decide ((rd_T108 l ((i : Int) - 1)).f0 < (rd_T108 l i).f0)) && itemsB (rd_T108 l i).f1)
def shelvesB (l : List Shf) : Bool := allFrom (shelfOk l) l.length 0
theorem impl_items (s s0 : List Shf) (n : Int) (i0 : Int) (q : List Itm) (w : Int) (hq : q.length ≤ 1048576) (R : Bool) (hN : Ev (fun k => impl_shelvesOk.l0 k s s0 n (wrap64 (i0 + 1))) R) :
  Ev (fun k => impl_shelvesOk.l1 k s s0 n i0 q q.length 0 w q) (allFrom (itemOk q) q.length 0 && R) := by
 refine Ev.up0 q.length (fun i k => impl_shelvesOk.l1 k s s0 n i0 q q.length i w q) (fun i => allFrom (itemOk q) q.length i && R) ?_ ?_ 0 (Nat.zero_le _)
 ·intro i hi ih
  refine Ev.succ ?_
  rw [allFrom_lt hi]
  simp only [impl_shelvesOk.l1, nat_lt, nat_0, hi, ↓reduceIte, up_ (show i < 4611686018427387904 by omega), down_ (show i < 4611686018427387904 by omega)]
  by_cases h1 : (rd_T131 q i).f0.size ≤ 600
  ·have h2 : ¬ (((rd_T131 q i).f0.size : Int) > 600) := by omega
   simp only [h2, ↓reduceIte]
   by_cases h3 : i = 0
   ·subst h3
    have e : itemOk q 0 = true := by unfold itemOk; rw [decide_eq_true h1]; simp
    simp only [e, Bool.true_and, show ¬ (((0 : Nat) : Int) > 0) by omega, ↓reduceIte]
    exact ih
   ·simp only [show (i : Int) > 0 by omega, show (0 : Int) ≤ (i : Int) - 1 by omega, show (i : Int) - 1 < (q.length : Int) by omega, ↓reduceIte]
    cases hb : Op.bytesLess (rd_T131 q ((i : Int) - 1)).f0.toList (rd_T131 q i).f0.toList
    ·have e : itemOk q i = false := by unfold itemOk; simp [h3, hb]
     simp only [e, Bool.false_and, Bool.false_eq_true, ↓reduceIte]
     exact Ev.now _
    ·have e : itemOk q i = true := by unfold itemOk; simp [h1, hb]
     simp only [e, Bool.true_and, ↓reduceIte]
     exact ih
  ·have h2 : (((rd_T131 q i).f0.size : Int) > 600) := by omega
   have e : itemOk q i = false := by unfold itemOk; simp [h1]
   simp only [h2, e, Bool.false_and, ↓reduceIte]
   exact Ev.now _
 ·refine Ev.succ ?_
  simp only [impl_shelvesOk.l1, nat_lt, Nat.lt_irrefl, ↓reduceIte]
  rw [allFrom_ge (Nat.lt_irrefl _), Bool.true_and]
  exact hN
theorem impl_Shelves (l : List Shf) (h : l.length ≤ 1048576) (hs : ∀ x ∈ l, x.f1.length ≤ 1048576) : Ev (fun k => impl_shelvesOk.f k l) (decide (l.length ≤ 80) && shelvesB l) := by
 unfold impl_shelvesOk.f shelvesB
 by_cases hn : l.length ≤ 80
 case neg => simp only [show (l.length : Int) > 80 by omega, ↓reduceIte, hn, decide_false, Bool.false_and]; exact Ev.now _
 simp only [show ¬ ((l.length : Int) > 80) by omega, ↓reduceIte, hn, decide_true, Bool.true_and]
 refine Ev.up0 l.length (fun i k => impl_shelvesOk.l0 k l l l.length i) (fun i => allFrom (shelfOk l) l.length i) ?_ ?_ 0 (Nat.zero_le _)
 ·intro i hi ih
  refine Ev.succ ?_
  rw [allFrom_lt hi]
  simp only [impl_shelvesOk.l0, nat_lt, nat_0, hi, ↓reduceIte, impl_place, Option.bind_some, down_ (show i < 4611686018427387904 by omega)]
  have hq : (rd_T108 l i).f1.length ≤ 1048576 := by rw [rdShf l i hi]; exact hs _ (List.getElem_mem hi)
  have key : ∀ b : Bool, Ev (fun k => impl_shelvesOk.j1 k l l l.length i b (rd_T108 l i).f0 (rd_T108 l i).f1) (!b && (allFrom (itemOk (rd_T108 l i).f1) (rd_T108 l i).f1.length 0 && allFrom (shelfOk l) l.length (i + 1))) := by
   intro b
   refine Ev.succ ?_
   cases b
   ·simp only [impl_shelvesOk.j1, Bool.false_eq_true, ↓reduceIte, Bool.not_false, Bool.true_and]
    refine impl_items l l l.length i _ _ hq _ ?_
    rw [up_ (show i < 4611686018427387904 by omega)]
    exact ih
   ·simp only [impl_shelvesOk.j1, ↓reduceIte, Bool.not_true, Bool.false_and]; exact Ev.now _
  have fin : Ev (fun k => impl_shelvesOk.j1 k l l l.length i (decide (((rd_T108 l i).f1.length : Int) > 300)) (rd_T108 l i).f0 (rd_T108 l i).f1) (itemsB (rd_T108 l i).f1 && allFrom (shelfOk l) l.length (i + 1)) := by
   have e : (itemsB (rd_T108 l i).f1 && allFrom (shelfOk l) l.length (i + 1)) = (!(decide (((rd_T108 l i).f1.length : Int) > 300)) && (allFrom (itemOk (rd_T108 l i).f1) (rd_T108 l i).f1.length 0 && allFrom (shelfOk l) l.length (i + 1))) := by
    unfold itemsB
    rw [Bool.and_assoc]
    congr 1
    by_cases h3 : (rd_T108 l i).f1.length ≤ 300
    ·rw [decide_eq_true h3, decide_eq_false (by omega)]; rfl
    ·rw [decide_eq_false h3, decide_eq_true (by omega)]; rfl
   rw [e]
   exact key _
  have ff : Ev (fun k => impl_shelvesOk.j1 k l l l.length i true (rd_T108 l i).f0 (rd_T108 l i).f1) false := key true
  unfold shelfOk
  cases hp : plB (rd_T108 l i).f0
  ·simp only [Bool.false_eq_true, ↓reduceIte, Bool.false_and]; exact ff
  ·simp only [↓reduceIte, Bool.true_and]
   by_cases h3 : i = 0
   ·subst h3
    simp only [show ¬ (((0 : Nat) : Int) > 0) by omega, ↓reduceIte, decide_true, Bool.true_or, Bool.true_and]
    exact fin
   ·simp only [show (i : Int) > 0 by omega, show (0 : Int) ≤ (i : Int) - 1 by omega, show (i : Int) - 1 < (l.length : Int) by omega, ↓reduceIte, h3, decide_false, Bool.false_or]
    by_cases h4 : (rd_T108 l ((i : Int) - 1)).f0 < (rd_T108 l i).f0
    ·simp only [show ¬ ((rd_T108 l ((i : Int) - 1)).f0 ≥ (rd_T108 l i).f0) by omega, h4, ↓reduceIte, decide_true, Bool.true_and]
     exact fin
    ·simp only [show ((rd_T108 l ((i : Int) - 1)).f0 ≥ (rd_T108 l i).f0) by omega, h4, ↓reduceIte, decide_false, Bool.false_and]
     exact ff
 ·refine Ev.succ ?_
  simp only [impl_shelvesOk.l0, nat_lt, Nat.lt_irrefl, ↓reduceIte]
  rw [allFrom_ge (Nat.lt_irrefl _)]
  exact Ev.now _
def peerB (p : Per) : Bool := plB p.f0 && (if p.f1 = true then (inB p.f2 (-1) 255 && (decide (p.f3.length ≤ 3) && (decide (p.f4.length = 8) && decide (p.f5.length ≤ 80)))) && ((p.f3.all fun b => plB b && !(b == p.f0)) && ((p.f4.all fun b => inB b (-1) 255) && shelvesB p.f5))
 else decide (p.f2 = 0) && (decide (p.f3.length = 0) && (decide (p.f4.length = 0) && decide (p.f5.length = 0))))
theorem rdL (l : List Int) (i : Nat) (h : i < l.length) : rd l (i : Int) = l[i] := by simp [rd, h]
theorem all_drop {α : Type} (p : α → Bool) (l : List α) (i : Nat) (h : i < l.length) : (l.drop i).all p = (p l[i] && (l.drop (i + 1)).all p) := by rw [List.drop_eq_getElem_cons h, List.all_cons]
theorem any_drop {α : Type} (p : α → Bool) (l : List α) (i : Nat) (h : i < l.length) : (l.drop i).any p = (p l[i] || (l.drop (i + 1)).any p) := by rw [List.drop_eq_getElem_cons h, List.any_cons]
theorem spec_shelves (w0 : Int) (w1 : Bool) (w2 : Int) (w3 w4 : List Int) (l : List Shf) (h : l.length ≤ 1048576) (hs : ∀ x ∈ l, x.f1.length ≤ 1048576) : Ev (fun k => spec_PeerOk.l2 k 0 w0 w1 w2 w3 w4 l) (shelvesB l) := by
 unfold shelvesB
 refine Ev.up0 l.length (fun i k => spec_PeerOk.l2 k i w0 w1 w2 w3 w4 l) (fun i => allFrom (shelfOk l) l.length i) ?_ ?_ 0 (Nat.zero_le _)
 ·intro i hi ih
  refine Ev.succ ?_
  rw [allFrom_lt hi]
  have hq : (rd_T108 l i).f1.length ≤ 1048576 := by rw [rdShf l i hi]; exact hs _ (List.getElem_mem hi)
  simp only [spec_PeerOk.l2, nat_lt, nat_0, hi, ↓reduceIte, spec_place, Option.bind_some, up_ (show i < 4611686018427387904 by omega), down_ (show i < 4611686018427387904 by omega)]
  have fin : Ev (fun k => (spec_l09Items.f k (rd_T108 l i).f1).bind fun t => if t = true then spec_PeerOk.l2 k ((i + 1 : Nat) : Int) w0 w1 w2 w3 w4 l else some false) (itemsB (rd_T108 l i).f1 && allFrom (shelfOk l) l.length (i + 1)) := by
   refine Ev.bind (spec_Items _ hq) ?_
   cases itemsB (rd_T108 l i).f1
   ·simp only [Bool.false_eq_true, ↓reduceIte, Bool.false_and]; exact Ev.now _
   ·simp only [↓reduceIte, Bool.true_and]; exact ih
  unfold shelfOk
  cases hp : plB (rd_T108 l i).f0
  ·simp only [Bool.false_eq_true, ↓reduceIte, Bool.false_and]; exact Ev.now _
  ·simp only [↓reduceIte, Bool.true_and]
   by_cases h3 : i = 0
   ·subst h3
    simp only [show ¬ (((0 : Nat) : Int) > 0) by omega, ↓reduceIte, decide_true, Bool.true_or, Bool.true_and]
    exact fin
   ·simp only [show (i : Int) > 0 by omega, show (0 : Int) ≤ (i : Int) - 1 by omega, show (i : Int) - 1 < (l.length : Int) by omega, ↓reduceIte, h3, decide_false, Bool.false_or]
    by_cases h4 : (rd_T108 l ((i : Int) - 1)).f0 < (rd_T108 l i).f0
    ·simp only [show ¬ ((rd_T108 l ((i : Int) - 1)).f0 ≥ (rd_T108 l i).f0) by omega, h4, ↓reduceIte, decide_true, Bool.true_and]
     exact fin
    ·simp only [show ((rd_T108 l ((i : Int) - 1)).f0 ≥ (rd_T108 l i).f0) by omega, h4, ↓reduceIte, decide_false, Bool.false_and]
     exact Ev.now _
 ·refine Ev.succ ?_
  simp only [spec_PeerOk.l2, nat_lt, Nat.lt_irrefl, ↓reduceIte]
  rw [allFrom_ge (Nat.lt_irrefl _)]
  exact Ev.now _
theorem spec_fingers (w0 : Int) (w1 : Bool) (w2 : Int) (w3 l : List Int) (w5 : List Shf) (h : l.length ≤ 1048576) (R : Bool) (hN : Ev (fun k => spec_PeerOk.l2 k 0 w0 w1 w2 w3 l w5) R) :
  Ev (fun k => spec_PeerOk.l1 k 0 w0 w1 w2 w3 l w5) ((l.all fun b => inB b (-1) 255) && R) := by
 refine Ev.up0 l.length (fun i k => spec_PeerOk.l1 k i w0 w1 w2 w3 l w5) (fun i => ((l.drop i).all fun b => inB b (-1) 255) && R) ?_ ?_ 0 (Nat.zero_le _)
 ·intro i hi ih
  refine Ev.succ ?_
  rw [all_drop _ l i hi]
  simp only [spec_PeerOk.l1, nat_lt, nat_0, hi, ↓reduceIte, rdL l i hi, spec_in, Option.bind_some, up_ (show i < 4611686018427387904 by omega)]
  cases inB l[i] (-1) 255
  ·simp only [Bool.false_eq_true, ↓reduceIte, Bool.false_and]; exact Ev.now _
  ·simp only [↓reduceIte, Bool.true_and]; exact ih
 ·refine Ev.succ ?_
  simp only [spec_PeerOk.l1, nat_lt, Nat.lt_irrefl, ↓reduceIte, List.drop_length, List.all_nil, Bool.true_and]
  exact hN
theorem spec_behind (w0 : Int) (w1 : Bool) (w2 : Int) (l w4 : List Int) (w5 : List Shf) (h : l.length ≤ 1048576) (R : Bool) (hN : Ev (fun k => spec_PeerOk.l1 k 0 w0 w1 w2 l w4 w5) R) :
  Ev (fun k => spec_PeerOk.l0 k 0 w0 w1 w2 l w4 w5) ((l.all fun b => plB b && !(b == w0)) && R) := by
 refine Ev.up0 l.length (fun i k => spec_PeerOk.l0 k i w0 w1 w2 l w4 w5) (fun i => ((l.drop i).all fun b => plB b && !(b == w0)) && R) ?_ ?_ 0 (Nat.zero_le _)
 ·intro i hi ih
  refine Ev.succ ?_
  rw [all_drop _ l i hi]
  simp only [spec_PeerOk.l0, nat_lt, nat_0, hi, ↓reduceIte, rdL l i hi, spec_place, Option.bind_some, up_ (show i < 4611686018427387904 by omega)]
  cases plB l[i]
  ·simp only [Bool.false_eq_true, ↓reduceIte, Bool.false_and]; exact Ev.now _
  ·by_cases h2 : l[i] = w0
   ·simp only [h2, ↓reduceIte, beq_self_eq_true, Bool.not_true, Bool.and_false, Bool.false_and]; exact Ev.now _
   ·simp only [h2, ↓reduceIte, Bool.true_and, show (l[i] == w0) = false by simpa using h2, Bool.not_false]; exact ih
 ·refine Ev.succ ?_
  simp only [spec_PeerOk.l0, nat_lt, Nat.lt_irrefl, ↓reduceIte, List.drop_length, List.all_nil, Bool.true_and]
  exact hN
theorem spec_Peer_ (x0 : Int) (x1 : Bool) (x2 : Int) (x3 x4 : List Int) (x5 : List Shf) (h3 : x3.length ≤ 1048576) (h4 : x4.length ≤ 1048576) (h5 : x5.length ≤ 1048576) (h6 : ∀ y ∈ x5, y.f1.length ≤ 1048576) : Ev (fun k => spec_PeerOk.f k x0 x1 x2 x3 x4 x5) (peerB ⟨x0, x1, x2, x3, x4, x5⟩) := by
 unfold spec_PeerOk.f peerB
 dsimp only
 rw [spec_place]
 simp only [spec_in, Option.bind_some]
 cases plB x0
 ·simp only [Bool.false_eq_true, ↓reduceIte, Bool.false_and]; exact Ev.now _
 simp only [↓reduceIte, Bool.true_and]
 have J : ∀ b : Bool, Ev (fun k => spec_PeerOk.j0 k b x0 x1 x2 x3 x4 x5) (!b && ((x3.all fun b => plB b && !(b == x0)) && ((x4.all fun b => inB b (-1) 255) && shelvesB x5))) := by
  intro b
  refine Ev.succ ?_
  cases b
  ·simp only [spec_PeerOk.j0, Bool.false_eq_true, ↓reduceIte, Bool.not_false, Bool.true_and]
   exact spec_behind _ _ _ _ _ _ h3 _ (spec_fingers _ _ _ _ _ _ h4 _ (spec_shelves _ _ _ _ _ _ h5 h6))
  ·simp only [spec_PeerOk.j0, ↓reduceIte, Bool.not_true, Bool.false_and]; exact Ev.now _
 have Jt : Ev (fun k => spec_PeerOk.j0 k true x0 x1 x2 x3 x4 x5) false := J true
 cases x1
 ·simp only [Bool.false_eq_true, ↓reduceIte]
  by_cases a2 : x2 = 0
  ·by_cases a3 : x3.length = 0
   ·by_cases a4 : x4.length = 0
    ·simp only [a2, a3, a4, Int.natCast_zero, ↓reduceIte, decide_true, Bool.true_and]
     exact Ev.eq (by rw [beqI]; exact decide_eq_decide.2 (by omega))
    ·simp only [a2, a3, Int.natCast_zero, ↓reduceIte, show ¬ ((x4.length : Int) = 0) by omega, a4, decide_true, decide_false, Bool.true_and, Bool.false_and]
     exact Ev.now _
   ·simp only [a2, ↓reduceIte, show ¬ ((x3.length : Int) = 0) by omega, a3, decide_true, decide_false, Bool.true_and, Bool.false_and]
    exact Ev.now _
  ·simp only [a2, ↓reduceIte, decide_false, Bool.false_and]
   exact Ev.now _
 ·simp only [↓reduceIte]
  cases inB x2 (-1) 255
  ·simp only [Bool.false_eq_true, ↓reduceIte, Bool.false_and]; exact Jt
  simp only [↓reduceIte, Bool.true_and]
  by_cases a3 : x3.length ≤ 3
  ·simp only [show ¬ ((x3.length : Int) > 3) by omega, a3, ↓reduceIte, decide_true, Bool.true_and]
   by_cases a4 : x4.length = 8
   ·simp only [show ((x4.length : Int) = 8) by omega, a4, ↓reduceIte, decide_true, Bool.true_and]
    have e : decide ((x5.length : Int) > 80) = !decide (x5.length ≤ 80) := by
     by_cases a5 : x5.length ≤ 80
     ·rw [decide_eq_false (by omega), decide_eq_true a5]; rfl
     ·rw [decide_eq_true (by omega), decide_eq_false a5]; rfl
    rw [e]
    have := J (!decide (x5.length ≤ 80))
    rw [Bool.not_not] at this
    exact this
   ·simp only [show ¬ ((x4.length : Int) = 8) by omega, a4, ↓reduceIte, decide_false, Bool.false_and]; exact Jt
  ·simp only [show ((x3.length : Int) > 3) by omega, a3, ↓reduceIte, decide_false, Bool.false_and]; exact Jt
theorem spec_Peer (p : Per) (h : OkPer p) : Ev (fun k => spec_PeerOk.f k p.f0 p.f1 p.f2 p.f3 p.f4 p.f5) (peerB p) := spec_Peer_ _ _ _ _ _ _ h.1 h.2.1 h.2.2.1 h.2.2.2
theorem hasI (q : Int → Option Bool) (p : Int → Bool) (hq : ∀ x, q x = some (p x)) (l : List Int) (h : l.length ≤ 1048576) : Ev (fun k => slices_ContainsFunc_int_int.f k l q) (l.any p) := by
 have key : ∀ d i, l.length - i = d → i ≤ l.length → ∃ j : Int, Ev (fun k => slices_IndexFunc_int_int.l0 k l q l.length i) j ∧ decide (j ≥ 0) = (l.drop i).any p := by
  intro d
  induction d with
  | zero =>
   intro i h1 h2
   obtain rfl : i = l.length := by omega
   refine ⟨-1, Ev.succ ?_, by simp⟩
   simp only [slices_IndexFunc_int_int.l0, nat_lt, Nat.lt_irrefl, ↓reduceIte]
   exact Ev.now _
  | succ d ih =>
   intro i h1 h2
   have hi : i < l.length := by omega
   cases hp : p l[i] with
   | true =>
    refine ⟨i, Ev.succ ?_, by rw [any_drop _ l i hi, hp]; simp⟩
    simp only [slices_IndexFunc_int_int.l0, nat_lt, nat_0, hi, ↓reduceIte, rdL l i hi, hq, hp, Option.bind_some]
    exact Ev.now _
   | false =>
    obtain ⟨j, j1, j2⟩ := ih (i + 1) (by omega) (by omega)
    refine ⟨j, Ev.succ ?_, by rw [j2, any_drop _ l i hi, hp, Bool.false_or]⟩
    simp only [slices_IndexFunc_int_int.l0, nat_lt, nat_0, hi, ↓reduceIte, rdL l i hi, hq, hp, Option.bind_some, Bool.false_eq_true, up_ (show i < 4611686018427387904 by omega)]
    exact j1
 obtain ⟨j, j1, j2⟩ := key l.length 0 rfl (Nat.zero_le _)
 unfold slices_ContainsFunc_int_int.f
 refine Ev.bind (show Ev (fun k => slices_IndexFunc_int_int.f k l q) j from j1) ?_
 rw [List.drop_zero] at j2
 rw [← j2]
 exact Ev.now _
theorem notall {α : Type} (p q : α → Bool) (h : ∀ x, p x = !q x) (l : List α) : l.any p = !l.all q := by
 induction l with
 | nil => rfl
 | cons x l ih => rw [List.any_cons, List.all_cons, ih, h, Bool.not_and]
theorem impl_Peer_ (x0 : Int) (x1 : Bool) (x2 : Int) (x3 x4 : List Int) (x5 : List Shf) (h3 : x3.length ≤ 1048576) (h4 : x4.length ≤ 1048576) (h5 : x5.length ≤ 1048576) (h6 : ∀ y ∈ x5, y.f1.length ≤ 1048576) : Ev (fun k => impl_PeerOk.f k x0 x1 x2 x3 x4 x5) (peerB ⟨x0, x1, x2, x3, x4, x5⟩) := by
 unfold impl_PeerOk.f peerB
 dsimp only
 simp only [impl_place, Option.bind_some]
 cases plB x0
 ·simp only [Bool.false_eq_true, ↓reduceIte, Bool.false_and]; exact Ev.now _
 simp only [↓reduceIte, Bool.true_and]
 have J : ∀ b : Bool, Ev (fun k => impl_PeerOk.j0 k b x0 x1 x2 x3 x4 x5) (!b && ((x3.all fun b => plB b && !(b == x0)) && ((x4.all fun b => inB b (-1) 255) && (decide (x5.length ≤ 80) && shelvesB x5)))) := by
  intro b
  refine Ev.succ ?_
  cases b
  ·simp only [impl_PeerOk.j0, Bool.false_eq_true, ↓reduceIte, Bool.not_false, Bool.true_and]
   refine Ev.bind (hasI _ (fun x => !plB x || x == x0) (fun x => rfl) x3 h3) ?_
   rw [notall (fun x => !plB x || x == x0) (fun b => plB b && !(b == x0)) (fun x => by simp) x3]
   cases (x3.all fun b => plB b && !(b == x0))
   ·simp only [Bool.not_false, ↓reduceIte, Bool.false_and]; exact Ev.now _
   simp only [Bool.not_true, Bool.false_eq_true, ↓reduceIte, Bool.true_and]
   refine Ev.bind (hasI _ (fun x => !(x == -1) && !plB x) (fun x => rfl) x4 h4) ?_
   have e : ∀ x : Int, (!(x == -1) && !plB x) = !inB x (-1) 255 := by
    intro x
    rw [plB_eq]
    unfold inB
    rw [beqI]
    by_cases y1 : x = -1
    ·subst y1; decide
    ·by_cases y2 : 0 ≤ x <;> by_cases y3 : x ≤ 255 <;> simp [y1, y2, y3] <;> omega
   rw [notall (fun x => !(x == -1) && !plB x) (fun b => inB b (-1) 255) e x4]
   cases (x4.all fun b => inB b (-1) 255)
   ·simp only [Bool.not_false, ↓reduceIte, Bool.false_and]; exact Ev.now _
   simp only [Bool.not_true, Bool.false_eq_true, ↓reduceIte, Bool.true_and]
   exact Ev.bind (impl_Shelves x5 h5 h6) (Ev.now _)
  ·simp only [impl_PeerOk.j0, ↓reduceIte, Bool.not_true, Bool.false_and]; exact Ev.now _
 have Jt : Ev (fun k => impl_PeerOk.j0 k true x0 x1 x2 x3 x4 x5) false := J true
 cases x1
 ·simp only [Bool.false_eq_true, ↓reduceIte]
  by_cases a2 : x2 = 0
  ·by_cases a3 : x3.length = 0
   ·by_cases a4 : x4.length = 0
    ·simp only [a2, a3, a4, Int.natCast_zero, ↓reduceIte, decide_true, Bool.true_and]
     exact Ev.eq (by rw [beqI]; exact decide_eq_decide.2 (by omega))
    ·simp only [a2, a3, Int.natCast_zero, ↓reduceIte, show ¬ ((x4.length : Int) = 0) by omega, a4, decide_true, decide_false, Bool.true_and, Bool.false_and]
     exact Ev.now _
   ·simp only [a2, ↓reduceIte, show ¬ ((x3.length : Int) = 0) by omega, a3, decide_true, decide_false, Bool.true_and, Bool.false_and]
    exact Ev.now _
  ·simp only [a2, ↓reduceIte, decide_false, Bool.false_and]
   exact Ev.now _
 ·simp only [↓reduceIte]
  have T : Ev (fun k => if (x3.length : Int) > 3 then impl_PeerOk.j0 k true x0 true x2 x3 x4 x5 else impl_PeerOk.j0 k ((x4.length : Int) != 8) x0 true x2 x3 x4 x5) ((decide (x3.length ≤ 3) && (decide (x4.length = 8) && decide (x5.length ≤ 80))) && ((x3.all fun b => plB b && !(b == x0)) && ((x4.all fun b => inB b (-1) 255) && shelvesB x5))) := by
   by_cases a3 : x3.length ≤ 3
   ·simp only [show ¬ ((x3.length : Int) > 3) by omega, a3, ↓reduceIte, decide_true, Bool.true_and]
    have e : ((x4.length : Int) != 8) = !decide (x4.length = 8) := by
     by_cases a4 : x4.length = 8
     ·rw [decide_eq_true a4, a4]; rfl
     ·rw [decide_eq_false a4]; simpa using (show ¬ ((x4.length : Int) = 8) by omega)
    rw [e]
    have := J (!decide (x4.length = 8))
    rw [Bool.not_not] at this
    have e2 : (decide (x4.length = 8) && ((x3.all fun b => plB b && !(b == x0)) && ((x4.all fun b => inB b (-1) 255) && (decide (x5.length ≤ 80) && shelvesB x5)))) = ((decide (x4.length = 8) && decide (x5.length ≤ 80)) && ((x3.all fun b => plB b && !(b == x0)) && ((x4.all fun b => inB b (-1) 255) && shelvesB x5))) := by
     cases decide (x4.length = 8) <;> cases decide (x5.length ≤ 80) <;> simp
    rw [e2] at this
    exact this
   ·simp only [show ((x3.length : Int) > 3) by omega, a3, ↓reduceIte, decide_false, Bool.false_and]; exact Jt
  by_cases a2 : x2 = -1
  ·have e : inB x2 (-1) 255 = true := by subst a2; decide
   simp only [a2, ↓reduceIte, e, Bool.true_and]
   rw [a2] at T
   exact T
  ·have e : inB x2 (-1) 255 = plB x2 := by
    rw [plB_eq]; unfold inB
    exact decide_eq_decide.2 (by omega)
   simp only [a2, ↓reduceIte, e]
   cases plB x2
   ·simp only [Bool.false_eq_true, ↓reduceIte, Bool.false_and]; exact Jt
   ·simp only [↓reduceIte, Bool.true_and]; exact T
theorem impl_Peer (p : Per) (h : OkPer p) : Ev (fun k => impl_PeerOk.f k p.f0 p.f1 p.f2 p.f3 p.f4 p.f5) (peerB p) := impl_Peer_ _ _ _ _ _ _ h.1 h.2.1 h.2.2.1 h.2.2.2
end Q
end Go.Proofs.YteofimccoadmeaaGreat
