/-
Rings, second: who owns a place, who holds it; the places of all shelves; CopiesRight: the reference and the program tell the same.
-/
import Derived.Test.YtkimdmdkldlhpaaKCQ77
namespace Go.Proofs.Ytkimdmdkldlhpaa
open Go.RowKit Go.Proofs.YtkimdmdkldlhpaaW.PrintWords Go.Proofs.YtkimdmdkldlhpaaW.PrintLast Go.Proofs.YtkimdmdkldlhpaaW.PrintMore Go.Proofs.Ytkimdmdkldlhpaa.PA
set_option linter.unusedVariables false
set_option linter.unusedSimpArgs false
namespace Q
theorem tmod_or (a : Int) : a.tmod 256 = a % 256 ∨ a.tmod 256 = a % 256 - 256 := by
 have h := @Int.tmod_eq_emod a 256
 by_cases c : 0 ≤ a ∨ (256 : Int) ∣ a
 ·rw [if_pos c] at h
  exact .inl (by omega)
 ·rw [if_neg c] at h
  exact .inr (by simpa using h)
theorem tmod_pos {a : Int} (h : 0 ≤ a) : a.tmod 256 = a % 256 := Int.tmod_eq_emod_of_nonneg h
theorem mod_s (a : Int) : spec_l08Mod.f a = some (a % 256) := by
 unfold spec_l08Mod.f
 have h := tmod_or a
 by_cases q : Int.tmod a 256 < 0
 ·rw [if_pos q, w64 (by omega) (by omega)]
  congr 1
  omega
 ·rw [if_neg q]
  congr 1
  omega
theorem mod_i (a : Int) : impl_place.f a = some (a % 256) := by
 unfold impl_place.f
 have h := tmod_or a
 rw [w64 (by omega) (by omega), tmod_pos (by omega)]
 congr 1
 omega
theorem ahead_s (a b : Int) : spec_Ahead.f a b = impl_Ahead.f a b := by
 unfold spec_Ahead.f impl_Ahead.f
 simp only [mod_s, mod_i, Option.bind_some]
def aheadI (a b : Int) : Int := (wrap64 (b % 256 - a % 256)) % 256
theorem ahead_i (a b : Int) : impl_Ahead.f a b = some (aheadI a b) := by
 unfold impl_Ahead.f
 simp only [mod_i, Option.bind_some, aheadI]
def ownF (l : List Int) (key : Int) (b : Int) (i : Nat) : Int :=
 if h : i < l.length then
  (if b < 0 then ownF l key i (i + 1) else if aheadI key (rd l i) < aheadI key (rd l b) then ownF l key i (i + 1) else ownF l key b (i + 1))
 else if b < 0 then -1 else rd l b
 termination_by l.length - i
theorem own_lt {l : List Int} {key b : Int} {i : Nat} (h : i < l.length) : ownF l key b i = if b < 0 then ownF l key i (i + 1) else if aheadI key (rd l i) < aheadI key (rd l b) then ownF l key i (i + 1) else ownF l key b (i + 1) := by
 rw [ownF, dif_pos h]
theorem own_end {l : List Int} {key b : Int} : ownF l key b l.length = if b < 0 then -1 else rd l b := by
 rw [ownF, dif_neg (Nat.lt_irrefl _)]
def ownI (l : List Int) (key : Int) : Int := ownF l key (-1) 0
theorem spec_Owner (l : List Int) (key : Int) (h : l.length ≤ 1048576) : Ev (fun k => spec_OwnerOf.f k l key) (ownI l key) :=
 Ev.up l.length (fun i (b : Int) k => spec_OwnerOf.l0 k l key b (i : Int)) (fun i b => ownF l key b i) (fun i b => b < 0 ∨ (0 ≤ b ∧ b < (l.length : Int))) (fun i b hi hb hn => by
  have nx : Ev (fun k => spec_OwnerOf.l0 k l key (i : Int) ((i + 1 : Nat) : Int)) (ownF l key i (i + 1)) := hn _ (.inr ⟨by omega, by omega⟩)
  have ny : Ev (fun k => spec_OwnerOf.l0 k l key b ((i + 1 : Nat) : Int)) (ownF l key b (i + 1)) := hn _ hb
  rw [own_lt hi]
  refine Ev.succ ?_
  simp only [spec_OwnerOf.l0, nat_lt, nat_0, hi, ↓reduceIte, up_ (show i < 4611686018427387904 by omega), ahead_s, ahead_i, Option.bind_some]
  by_cases c : b < 0
  ·simp only [c, ↓reduceIte]; exact nx
  ·simp only [c, ↓reduceIte, show 0 ≤ b by omega, show b < (l.length : Int) by omega]
   by_cases e : aheadI key (rd l i) < aheadI key (rd l b)
   ·simp only [e, ↓reduceIte]; exact nx
   ·simp only [e, ↓reduceIte]; exact ny) (fun b hb => by
  rw [own_end]
  refine Ev.succ ?_
  simp only [spec_OwnerOf.l0, nat_lt, Nat.lt_irrefl, ↓reduceIte]
  by_cases c : b < 0
  ·simp only [c, ↓reduceIte]; exact Ev.now _
  ·simp only [c, ↓reduceIte, show 0 ≤ b by omega, show b < (l.length : Int) by omega]; exact Ev.now _) 0 (-1) (Nat.zero_le _) (.inl (by omega))
theorem impl_Owner (l : List Int) (key : Int) (h : l.length ≤ 1048576) : Ev (fun k => impl_OwnerOf.f k l key) (ownI l key) :=
 Ev.up l.length (fun i (b : Int) k => impl_OwnerOf.l0 k l key b l (l.length : Int) (i : Int)) (fun i b => ownF l key b i) (fun i b => b < 0 ∨ (0 ≤ b ∧ b < (l.length : Int))) (fun i b hi hb hn => by
  have nx : Ev (fun k => impl_OwnerOf.l0 k l key (i : Int) l (l.length : Int) ((i + 1 : Nat) : Int)) (ownF l key i (i + 1)) := hn _ (.inr ⟨by omega, by omega⟩)
  have ny : Ev (fun k => impl_OwnerOf.l0 k l key b l (l.length : Int) ((i + 1 : Nat) : Int)) (ownF l key b (i + 1)) := hn _ hb
  rw [own_lt hi]
  refine Ev.succ ?_
  simp only [impl_OwnerOf.l0, nat_lt, nat_0, hi, ↓reduceIte, up_ (show i < 4611686018427387904 by omega), ahead_i, Option.bind_some]
  by_cases c : b < 0
  ·simp only [c, ↓reduceIte]; exact nx
  ·simp only [c, ↓reduceIte, show 0 ≤ b by omega, show b < (l.length : Int) by omega]
   by_cases e : aheadI key (rd l i) < aheadI key (rd l b)
   ·simp only [e, ↓reduceIte]; exact nx
   ·simp only [e, ↓reduceIte]; exact ny) (fun b hb => by
  rw [own_end]
  refine Ev.succ ?_
  simp only [impl_OwnerOf.l0, nat_lt, Nat.lt_irrefl, ↓reduceIte]
  by_cases c : b < 0
  ·simp only [c, ↓reduceIte]; exact Ev.now _
  ·simp only [c, ↓reduceIte, show 0 ≤ b by omega, show b < (l.length : Int) by omega]; exact Ev.now _) 0 (-1) (Nat.zero_le _) (.inl (by omega))
theorem spec_peer (l : List Per) (x : Int) (h : l.length ≤ 1048576) : Ev (fun k => spec_PeerAt.f k l x) (fstI (hereB x) l 0) :=
 Ev.up0 l.length (fun i k => spec_PeerAt.l0 k x (i : Int) l) (fun i => fstI (hereB x) l i) (fun i hi hn => by
  refine Ev.succ ?_
  simp only [spec_PeerAt.l0, nat_lt, nat_0, hi, ↓reduceIte, rdPer l i hi, up_ (show i < 4611686018427387904 by omega)]
  rw [fst_step _ _ _ hi]
  unfold hereB
  cases hp : l[i].f1
  ·simp only [Bool.false_eq_true, ↓reduceIte, Bool.false_and]; exact hn
  ·by_cases e : l[i].f0 = x
   ·simp only [e, ↓reduceIte, Bool.true_and, beq_self_eq_true]; exact Ev.now _
   ·simp only [e, ↓reduceIte, Bool.true_and, beq_eq_false_iff_ne.2 e, Bool.false_eq_true]; exact hn) (by
  refine Ev.succ ?_
  simp only [spec_PeerAt.l0, nat_lt, Nat.lt_irrefl, ↓reduceIte, fst_end]
  exact Ev.now _) 0 (Nat.zero_le _)
theorem impl_peer (l : List Per) (x : Int) (h : l.length ≤ 1048576) : Ev (fun k => impl_peerHere.f k l x) (fstI (hereB x) l 0) := by
 have := Ev.up0 l.length (fun i k => impl_Peer.l0 k l (clo56 x) (l.length : Int) (i : Int)) (fun i => fstI (hereB x) l i) (fun i hi hn => by
  refine Ev.succ ?_
  simp only [impl_Peer.l0, nat_lt, nat_0, hi, ↓reduceIte, rdPer l i hi, up_ (show i < 4611686018427387904 by omega), clo56, Option.bind_some]
  rw [fst_step _ _ _ hi]
  cases e : hereB x l[i]
  ·simp only [Bool.false_eq_true, ↓reduceIte]; exact hn
  ·simp only [↓reduceIte]; exact Ev.now _) (by
  refine Ev.succ ?_
  simp only [impl_Peer.l0, nat_lt, Nat.lt_irrefl, ↓reduceIte, fst_end]
  exact Ev.now _) 0 (Nat.zero_le _)
 unfold impl_peerHere.f
 exact Ev.bind (show Ev (fun k => impl_Peer.f k l (clo56 x)) _ from this) (Ev.now _)
theorem fst_any {α : Type} (p : α → Bool) (l : List α) : decide (fstI p l 0 ≥ 0) = l.any p := by
 rcases fst_cases p l with ⟨h1, h2, _⟩ | ⟨j, hj, h1, h2, _⟩
 ·rw [h1, h2]; rfl
 ·rw [h1, h2]; exact decide_eq_true (by omega)
def hasN (l : List Int) (x : Int) : Bool := l.any fun y => y == x
theorem spec_hasN (l : List Int) (x : Int) (h : l.length ≤ 2000000) : Ev (fun k => spec_l08Has.f k l x) (hasN l x) := by
 have := Ev.up0 l.length (fun i k => spec_l08Has.l0 k l x (i : Int)) (fun i => hasN (l.drop i) x) (fun i hi hn => by
  refine Ev.succ ?_
  simp only [spec_l08Has.l0, nat_lt, nat_0, hi, ↓reduceIte, rdN l i hi, up_ (show i < 4611686018427387904 by omega)]
  rw [List.drop_eq_getElem_cons hi]
  unfold hasN
  rw [List.any_cons]
  by_cases e : l[i] = x
  ·simp only [e, ↓reduceIte, beq_self_eq_true, Bool.true_or]; exact Ev.now _
  ·simp only [e, ↓reduceIte, beq_eq_false_iff_ne.2 e, Bool.false_or]; exact hn) (by
  refine Ev.succ ?_
  simp only [spec_l08Has.l0, nat_lt, Nat.lt_irrefl, ↓reduceIte, List.drop_length]
  exact Ev.now _) 0 (Nat.zero_le _)
 simpa [spec_l08Has.f] using this
theorem impl_hasN (l : List Int) (x : Int) (h : l.length ≤ 2000000) : Ev (fun k => slices_Contains_int_int.f k l x) (hasN l x) := by
 have := Ev.up0 l.length (fun i k => slices_Index_int_int.l0 k l x (l.length : Int) (i : Int)) (fun i => fstI (fun y => y == x) l i) (fun i hi hn => by
  refine Ev.succ ?_
  simp only [slices_Index_int_int.l0, nat_lt, nat_0, hi, ↓reduceIte, rdN l i hi, up_ (show i < 4611686018427387904 by omega)]
  rw [fst_step _ _ _ hi]
  by_cases e : l[i] = x
  ·simp only [e, ↓reduceIte, beq_self_eq_true]; exact Ev.now _
  ·simp only [show ¬ x = l[i] from fun z => e z.symm, ↓reduceIte, beq_eq_false_iff_ne.2 e, Bool.false_eq_true]; exact hn) (by
  refine Ev.succ ?_
  simp only [slices_Index_int_int.l0, nat_lt, Nat.lt_irrefl, ↓reduceIte, fst_end]
  exact Ev.now _) 0 (Nat.zero_le _)
 unfold slices_Contains_int_int.f
 refine Ev.bind (show Ev (fun k => slices_Index_int_int.f k l x) _ from this) ?_
 rw [fst_any]
 exact Ev.now _
def holdF (l : List Per) : List Int → List Int → List Int
 | out, [] => out
 | out, x :: xs => if l.any (hereB x) = true then (if hasN out x = true then holdF l out xs else if (out.length : Int) < 3 then holdF l (out ++ [x]) xs else holdF l out xs) else holdF l out xs
theorem hold_full (l : List Per) : ∀ (xs out : List Int), ¬ (out.length : Int) < 3 → holdF l out xs = out
 | [], out, _ => rfl
 | x :: xs, out, h => by
  rw [holdF]
  simp only [h, ↓reduceIte, hold_full l xs out h]
  split
  ·split <;> rfl
  ·rfl
def holdL (l : List Per) (id : Int) : List Int := match l.find? (hereB id) with | none => [] | some p => holdF l [id] p.f3
theorem spec_hold (l : List Per) (hl : l.length ≤ 1048576) (j : Nat) (hj : j < l.length) (hb : l[j].f3.length ≤ 1048576) : ∀ (d i : Nat) (out : List Int), l[j].f3.length - i = d → i ≤ l[j].f3.length → out.length ≤ i + 1 →
  Ev (fun k => spec_HoldersOf.l0 k (j : Int) out (i : Int) l) (holdF l out (l[j].f3.drop i)) := by
 intro d
 induction d with
 | zero =>
  intro i out h1 h2 h3
  obtain rfl : i = l[j].f3.length := by omega
  refine Ev.succ ?_
  simp only [spec_HoldersOf.l0, nat_lt, nat_0, hj, ↓reduceIte, rdPer l j hj, Nat.lt_irrefl, List.drop_length]
  refine Ev.succ ?_
  simp only [spec_HoldersOf.j1, Bool.false_eq_true, ↓reduceIte]
  exact Ev.now _
 | succ d ih =>
  intro i out h1 h2 h3
  have hi : i < l[j].f3.length := by omega
  rw [List.drop_eq_getElem_cons hi]
  refine Ev.succ ?_
  simp only [spec_HoldersOf.l0, nat_lt, nat_0, hj, hi, ↓reduceIte, rdPer l j hj]
  refine Ev.succ ?_
  by_cases c : (out.length : Int) < 3
  ·rw [holdF]
   simp only [c, decide_true, spec_HoldersOf.j1, ↓reduceIte, nat_lt, nat_0, hj, hi, rdPer l j hj, rdN _ i hi, up_ (show i < 4611686018427387904 by omega)]
   refine Ev.bind (spec_peer l l[j].f3[i] hl) ?_
   have ha := fst_any (hereB l[j].f3[i]) l
   cases hh : l.any (hereB l[j].f3[i])
   ·rw [hh] at ha
    simp only [of_decide_eq_false ha, ↓reduceIte, Bool.false_eq_true]
    exact ih (i + 1) out (by omega) (by omega) (by omega)
   ·rw [hh] at ha
    simp only [of_decide_eq_true ha, ↓reduceIte]
    refine Ev.bind (spec_hasN out _ (by omega)) ?_
    cases hn : hasN out l[j].f3[i]
    ·simp only [Bool.false_eq_true, ↓reduceIte, show out.length < 17592186044416 by omega]
     exact ih (i + 1) _ (by omega) (by omega) (by simp; omega)
    ·simp only [↓reduceIte]
     exact ih (i + 1) out (by omega) (by omega) (by omega)
  ·rw [hold_full l _ out c]
   simp only [c, decide_false, spec_HoldersOf.j1, ↓reduceIte, Bool.false_eq_true]
   exact Ev.now _
theorem impl_hold (l : List Per) (hl : l.length ≤ 1048576) (bs : List Int) (hb : bs.length ≤ 1048576) : ∀ (d i : Nat) (out : List Int), bs.length - i = d → i ≤ bs.length → out.length ≤ i + 1 →
  Ev (fun k => impl_HoldersOf.l0 k out bs (bs.length : Int) (i : Int) l) (holdF l out (bs.drop i)) := by
 intro d
 induction d with
 | zero =>
  intro i out h1 h2 h3
  obtain rfl : i = bs.length := by omega
  refine Ev.succ ?_
  simp only [impl_HoldersOf.l0, nat_lt, Nat.lt_irrefl, ↓reduceIte, List.drop_length]
  exact Ev.now _
 | succ d ih =>
  intro i out h1 h2 h3
  have hi : i < bs.length := by omega
  rw [List.drop_eq_getElem_cons hi, holdF]
  refine Ev.succ ?_
  simp only [impl_HoldersOf.l0, nat_lt, nat_0, hi, ↓reduceIte, rdN _ i hi, up_ (show i < 4611686018427387904 by omega)]
  refine Ev.bind (impl_peer l bs[i] hl) ?_
  have ha := fst_any (hereB bs[i]) l
  cases hh : l.any (hereB bs[i])
  ·rw [hh] at ha
   simp only [of_decide_eq_false ha, ↓reduceIte, Bool.false_eq_true]
   exact ih (i + 1) out (by omega) (by omega) (by omega)
  ·rw [hh] at ha
   simp only [of_decide_eq_true ha, ↓reduceIte]
   refine Ev.bind (impl_hasN out _ (by omega)) ?_
   cases hn : hasN out bs[i]
   ·by_cases c : (out.length : Int) < 3
    ·simp only [Bool.false_eq_true, c, ↓reduceIte, show out.length < 17592186044416 by omega]
     exact ih (i + 1) _ (by omega) (by omega) (by simp; omega)
    ·simp only [Bool.false_eq_true, c, ↓reduceIte]
     exact ih (i + 1) out (by omega) (by omega) (by omega)
   ·simp only [↓reduceIte]
    exact ih (i + 1) out (by omega) (by omega) (by omega)
theorem spec_Hold (l : List Per) (h : OkRing l) (id : Int) : Ev (fun k => spec_HoldersOf.f k l id) (holdL l id) := by
 unfold spec_HoldersOf.f holdL
 refine Ev.bind (spec_peer l id h.1) ?_
 rcases fst_cases (hereB id) l with ⟨h1, _, h3⟩ | ⟨j, hj, h1, _, h3⟩
 ·rw [h1, h3]
  simp only [show ((-1 : Int) < 0) by omega, ↓reduceIte]
  exact Ev.now _
 ·rw [h1, h3]
  simp only [show ¬ ((j : Int) < 0) by omega, ↓reduceIte]
  exact spec_hold l h.1 j hj (h.2 _ (List.getElem_mem hj)).1 l[j].f3.length 0 [id] (by omega) (by omega) (by simp)
theorem impl_Hold (l : List Per) (h : OkRing l) (id : Int) : Ev (fun k => impl_HoldersOf.f k l id) (holdL l id) := by
 unfold impl_HoldersOf.f holdL
 refine Ev.bind (impl_peer l id h.1) ?_
 rcases fst_cases (hereB id) l with ⟨h1, _, h3⟩ | ⟨j, hj, h1, _, h3⟩
 ·rw [h1, h3]
  simp only [show ((-1 : Int) < 0) by omega, ↓reduceIte]
  exact Ev.now _
 ·rw [h1, h3]
  simp only [show ¬ ((j : Int) < 0) by omega, ↓reduceIte, nat_lt, nat_0, hj, rdPer l j hj]
  exact impl_hold l h.1 l[j].f3 (h.2 _ (List.getElem_mem hj)).1 l[j].f3.length 0 [id] (by omega) (by omega) (by simp)
theorem hold_len (l : List Per) : ∀ (xs out : List Int), (holdF l out xs).length ≤ out.length + xs.length
 | [], out => by simp [holdF]
 | x :: xs, out => by
  rw [holdF]
  have h1 := hold_len l xs out
  have h2 := hold_len l xs (out ++ [x])
  rw [List.length_append, List.length_singleton] at h2
  rw [List.length_cons]
  repeat' split
  all_goals omega
theorem holdL_len (l : List Per) (h : OkRing l) (id : Int) : (holdL l id).length ≤ 1048577 := by
 unfold holdL
 cases hf : l.find? (hereB id) with
 | none => simp
 | some p =>
  have := hold_len l p.f3 [id]
  have := (h.2 p (List.mem_of_find?_eq_some hf)).1
  simp only [List.length_singleton] at *
  omega
end Q
end Go.Proofs.Ytkimdmdkldlhpaa
