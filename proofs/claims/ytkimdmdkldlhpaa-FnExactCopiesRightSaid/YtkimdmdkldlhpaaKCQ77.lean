/-
Rings: who is here, who owns a place, who holds it; a shelf of a place; all shelves of it, merged. The reference and the program.
-/
import Derived.Test.YtkimdmdkldlhpaaKCQ76
namespace Go.Proofs.Ytkimdmdkldlhpaa
open Go.RowKit Go.Proofs.YtkimdmdkldlhpaaW.PrintWords Go.Proofs.YtkimdmdkldlhpaaW.PrintLast Go.Proofs.YtkimdmdkldlhpaaW.PrintMore Go.Proofs.Ytkimdmdkldlhpaa.PA
set_option linter.unusedVariables false
set_option linter.unusedSimpArgs false
namespace Q
theorem rdN (l : List Int) (i : Nat) (h : i < l.length) : rd l (i : Int) = l[i] := by simp [rd, h]
def fstI {α : Type} (p : α → Bool) (l : List α) (i : Nat) : Int := if (l.drop i).any p = true then ((i + (l.drop i).findIdx p : Nat) : Int) else -1
theorem fst_end {α : Type} (p : α → Bool) (l : List α) : fstI p l l.length = -1 := by simp [fstI]
theorem fst_step {α : Type} (p : α → Bool) (l : List α) (i : Nat) (h : i < l.length) : fstI p l i = if p l[i] = true then (i : Int) else fstI p l (i + 1) := by
 unfold fstI
 rw [List.drop_eq_getElem_cons h, List.any_cons, List.findIdx_cons]
 cases hp : p l[i]
 ·simp only [Bool.false_or, Bool.false_eq_true, ↓reduceIte, cond_false]
  split
  ·omega
  ·rfl
 ·simp
theorem fst_cases {α : Type} (p : α → Bool) (l : List α) : (fstI p l 0 = -1 ∧ l.any p = false ∧ l.find? p = none) ∨ ∃ (j : Nat) (h : j < l.length), fstI p l 0 = j ∧ l.any p = true ∧ l.find? p = some l[j] := by
 unfold fstI
 rw [List.drop_zero]
 cases ha : l.any p
 ·refine .inl ⟨by simp, rfl, ?_⟩
  rw [List.find?_eq_none]
  intro x hx
  rw [List.any_eq_false] at ha
  exact ha x hx
 ·have hj : l.findIdx p < l.length := List.findIdx_lt_length.2 (List.any_eq_true.1 ha)
  refine .inr ⟨l.findIdx p, hj, by simp, rfl, ?_⟩
  rw [List.find?_eq_getElem?_findIdx]
  simp [hj]
def onK (key : Int) (s : Shf) : Bool := s.f0 == key
def hasS (p : Per) (key : Int) : Bool := p.f5.any (onK key)
def shelfL (p : Per) (key : Int) : List Itm := ((p.f5.find? (onK key)).map (·.f1)).getD []
theorem spec_Shelf (p : Per) (key : Int) (h : OkPer p) : Ev (fun k => spec_ShelfOf.f k p.f0 p.f1 p.f2 p.f3 p.f4 p.f5 key) (shelfL p key) := by
 have hl := h.2.2.1
 have := Ev.up0 p.f5.length (fun i k => spec_ShelfOf.l0 k key (i : Int) p.f0 p.f1 p.f2 p.f3 p.f4 p.f5) (fun i => (((p.f5.drop i).find? (onK key)).map (·.f1)).getD []) (fun i hi hn => by
  refine Ev.succ ?_
  have hx := h.2.2.2 _ (List.getElem_mem hi)
  simp only [spec_ShelfOf.l0, nat_lt, nat_0, hi, ↓reduceIte, rdShf p.f5 i hi, up_ (show i < 4611686018427387904 by omega), Option.bind_some, List.length_nil, List.nil_append]
  rw [List.drop_eq_getElem_cons hi, List.find?_cons]
  by_cases e : p.f5[i].f0 = key
  ·simp only [e, ↓reduceIte, show 0 + p.f5[i].f1.length < 5864062014805 by omega, onK, beq_self_eq_true, Option.map_some, Option.getD_some]
   exact Ev.now _
  ·simp only [e, ↓reduceIte, onK, beq_eq_false_iff_ne.2 e]
   exact hn) (by
  refine Ev.succ ?_
  simp only [spec_ShelfOf.l0, nat_lt, Nat.lt_irrefl, ↓reduceIte, List.drop_length]
  exact Ev.now _) 0 (Nat.zero_le _)
 simpa [spec_ShelfOf.f, shelfL] using this
theorem spec_HasS (p : Per) (key : Int) (h : OkPer p) : Ev (fun k => spec_l15Has.f k p.f0 p.f1 p.f2 p.f3 p.f4 p.f5 key) (hasS p key) := by
 have hl := h.2.2.1
 have := Ev.up0 p.f5.length (fun i k => spec_l15Has.l0 k key (i : Int) p.f0 p.f1 p.f2 p.f3 p.f4 p.f5) (fun i => (p.f5.drop i).any (onK key)) (fun i hi hn => by
  refine Ev.succ ?_
  simp only [spec_l15Has.l0, nat_lt, nat_0, hi, ↓reduceIte, rdShf p.f5 i hi, up_ (show i < 4611686018427387904 by omega)]
  rw [List.drop_eq_getElem_cons hi, List.any_cons]
  by_cases e : p.f5[i].f0 = key
  ·simp only [e, ↓reduceIte, onK, beq_self_eq_true, Bool.true_or]
   exact Ev.now _
  ·simp only [e, ↓reduceIte, onK, beq_eq_false_iff_ne.2 e, Bool.false_or]
   exact hn) (by
  refine Ev.succ ?_
  simp only [spec_l15Has.l0, nat_lt, Nat.lt_irrefl, ↓reduceIte, List.drop_length, List.any_nil]
  exact Ev.now _) 0 (Nat.zero_le _)
 simpa [spec_l15Has.f, hasS] using this
theorem impl_at (p : Per) (key : Int) (h : OkPer p) : Ev (fun k => impl_shelfAt.f k p.f0 p.f1 p.f2 p.f3 p.f4 p.f5 key) (fstI (onK key) p.f5 0) := by
 have hl := h.2.2.1
 have := Ev.up0 p.f5.length (fun i k => impl_Shelf.l0 k p.f5 (clo40 key) (p.f5.length : Int) (i : Int)) (fun i => fstI (onK key) p.f5 i) (fun i hi hn => by
  refine Ev.succ ?_
  simp only [impl_Shelf.l0, nat_lt, nat_0, hi, ↓reduceIte, rdShf p.f5 i hi, up_ (show i < 4611686018427387904 by omega), clo40, Option.bind_some]
  rw [fst_step _ _ _ hi]
  by_cases e : p.f5[i].f0 = key
  ·simp only [e, ↓reduceIte, onK, beq_self_eq_true]
   exact Ev.now _
  ·simp only [↓reduceIte, onK, beq_eq_false_iff_ne.2 e, Bool.false_eq_true]
   exact hn) (by
  refine Ev.succ ?_
  simp only [impl_Shelf.l0, nat_lt, Nat.lt_irrefl, ↓reduceIte, fst_end]
  exact Ev.now _) 0 (Nat.zero_le _)
 unfold impl_shelfAt.f
 exact Ev.bind (show Ev (fun k => impl_Shelf.f k p.f5 (clo40 key)) _ from this) (Ev.now _)
theorem at_has (p : Per) (key : Int) : decide (fstI (onK key) p.f5 0 ≥ 0) = hasS p key := by
 unfold hasS
 rcases fst_cases (onK key) p.f5 with ⟨h1, h2, _⟩ | ⟨j, hj, h1, h2, _⟩
 ·rw [h1, h2]; rfl
 ·rw [h1, h2]; exact decide_eq_true (by omega)
theorem impl_Shelf_ (p : Per) (key : Int) (h : OkPer p) : Ev (fun k => impl_ShelfOf.f k p.f0 p.f1 p.f2 p.f3 p.f4 p.f5 key) (shelfL p key) := by
 unfold impl_ShelfOf.f
 refine Ev.bind (impl_at p key h) ?_
 unfold shelfL
 rcases fst_cases (onK key) p.f5 with ⟨h1, _, h3⟩ | ⟨j, hj, h1, _, h3⟩
 ·rw [h1, h3]
  simp only [show ((-1 : Int) < 0) by omega, ↓reduceIte, Option.map_none, Option.getD_none]
  exact Ev.now _
 ·have hx := h.2.2.2 _ (List.getElem_mem hj)
  rw [h1, h3]
  simp only [show ¬ ((j : Int) < 0) by omega, nat_lt, nat_0, hj, ↓reduceIte, rdShf p.f5 j hj, impl_Item_42.f, show p.f5[j].f1.length < 5864062014805 by omega, Option.bind_some, Option.map_some, Option.getD_some]
  exact Ev.now _
def wPer (p : Per) : Nat := (p.f5.map fun s => s.f1.length).sum
theorem shelf_len (p : Per) (key : Int) : (shelfL p key).length ≤ wPer p := by
 unfold shelfL wPer
 cases hf : p.f5.find? (onK key) with
 | none => simp
 | some s => exact le_sum (fun s : Shf => s.f1.length) (List.mem_of_find?_eq_some hf)
theorem noShelf (p : Per) (key : Int) (h : hasS p key = false) : shelfL p key = [] := by
 unfold hasS at h
 unfold shelfL
 rw [List.find?_eq_none.2 (by rw [List.any_eq_false] at h; exact h)]
 rfl
def allOfK (l : List Per) (key : Int) (acc : List Itm) : List Itm := l.foldl (fun a p => putAll a (shelfL p key)) acc
theorem put_of {acc : List Itm} (h : SS acc) (b : List Itm) : putAll [] (acc ++ b) = putAll acc b := by rw [putAll_app, putAll_self h]
theorem spec_All (l : List Per) (key : Int) (h : OkRing l) (hw : (l.map wPer).sum ≤ 1048576) : Ev (fun k => spec_l15All.f k l key) (allOfK l key []) := by
 have hl := h.1
 have := Ev.up l.length (fun i (s : List Itm) k => spec_l15All.l0 k key s (i : Int) l) (fun i s => allOfK (l.drop i) key s) (fun i s => SS s ∧ s.length + ((l.drop i).map wPer).sum ≤ 1048576) (fun i s hi hs hn => by
  have hd := List.drop_eq_getElem_cons hi
  have hsl := shelf_len l[i] key
  have hpl := put_len (shelfL l[i] key) s
  rw [hd, List.map_cons, List.sum_cons] at hs
  refine Ev.succ ?_
  simp only [spec_l15All.l0, nat_lt, nat_0, hi, ↓reduceIte, rdPer l i hi, up_ (show i < 4611686018427387904 by omega)]
  refine Ev.bind (spec_Shelf l[i] key (h.2 _ (List.getElem_mem hi))) (Ev.bind (spec_Merge s (shelfL l[i] key) (by omega)) ?_)
  rw [put_of hs.1, hd]
  exact hn _ ⟨put_ss _ _ hs.1, by omega⟩) (fun s hs => by
  refine Ev.succ ?_
  simp only [spec_l15All.l0, nat_lt, Nat.lt_irrefl, ↓reduceIte, List.drop_length]
  exact Ev.now _) 0 [] (Nat.zero_le _) ⟨.nil, by simpa using hw⟩
 simpa [spec_l15All.f] using this
theorem impl_every (l : List Per) (key : Int) (h : OkRing l) (hw : (l.map wPer).sum ≤ 1048576) : Ev (fun k => impl_everyOf.f k l key) (allOfK l key [], l.any fun p => hasS p key) := by
 have hl := h.1
 have := Ev.up l.length (fun i (s : List Itm × Bool) k => impl_everyOf.l0 k key s.1 s.2 l (l.length : Int) (i : Int)) (fun i s => (allOfK (l.drop i) key s.1, s.2 || (l.drop i).any fun p => hasS p key)) (fun i s => SS s.1 ∧ s.1.length + ((l.drop i).map wPer).sum ≤ 1048576) (fun i s hi hs hn => by
  have hd := List.drop_eq_getElem_cons hi
  have hsl := shelf_len l[i] key
  have hpl := put_len (shelfL l[i] key) s.1
  rw [hd, List.map_cons, List.sum_cons] at hs
  refine Ev.succ ?_
  simp only [impl_everyOf.l0, nat_lt, nat_0, hi, ↓reduceIte, rdPer l i hi, up_ (show i < 4611686018427387904 by omega)]
  refine Ev.bind (impl_at l[i] key (h.2 _ (List.getElem_mem hi))) ?_
  have ha := at_has l[i] key
  rw [hd, List.any_cons]
  cases hh : hasS l[i] key
  ·rw [hh] at ha
   simp only [of_decide_eq_false ha, ↓reduceIte, Bool.false_or]
   have := hn s ⟨hs.1, by omega⟩
   have e : allOfK (l[i] :: l.drop (i + 1)) key s.1 = allOfK (l.drop (i + 1)) key s.1 := by
    unfold allOfK
    rw [List.foldl_cons, noShelf _ _ hh]
    rfl
   rw [e]
   exact this
  ·rw [hh] at ha
   simp only [of_decide_eq_true ha, ↓reduceIte, Bool.true_or, Bool.or_true]
   refine Ev.bind (impl_Shelf_ l[i] key (h.2 _ (List.getElem_mem hi))) (Ev.bind (impl_Merge s.1 (shelfL l[i] key) (by omega)) ?_)
   rw [put_of hs.1]
   have := hn (putAll s.1 (shelfL l[i] key), true) ⟨put_ss _ _ hs.1, by dsimp only; omega⟩
   simp only [Bool.true_or] at this
   exact this) (fun s hs => by
  refine Ev.succ ?_
  simp only [impl_everyOf.l0, nat_lt, Nat.lt_irrefl, ↓reduceIte, List.drop_length, List.any_nil, Bool.or_false]
  exact Ev.now _) 0 ([], false) (Nat.zero_le _) ⟨.nil, by simpa using hw⟩
 simpa [impl_everyOf.f] using this
def insN (x : Int) : List Int → List Int
 | [] => [x]
 | y :: ys => if x < y then x :: y :: ys else y :: insN x ys
theorem insN_len (x : Int) : ∀ l, (insN x l).length = l.length + 1
 | [] => rfl
 | y :: ys => by unfold insN; split <;> simp [insN_len x ys]
theorem insN_perm (x : Int) : ∀ l, (insN x l).Perm (x :: l)
 | [] => .refl _
 | y :: ys => by
  unfold insN
  split
  ·exact .refl _
  ·exact ((insN_perm x ys).cons y).trans (.swap _ _ _)
theorem insN_sort (x : Int) : ∀ l, l.Pairwise (fun a b => a ≤ b) → (insN x l).Pairwise (fun a b => a ≤ b)
 | [], _ => by simp [insN]
 | y :: ys, h => by
  rw [List.pairwise_cons] at h
  unfold insN
  split
  ·rename_i k
   exact List.pairwise_cons.2 ⟨fun z hz => by
    rcases List.mem_cons.1 hz with rfl | hz
    ·omega
    ·have := h.1 z hz; omega, List.pairwise_cons.2 h⟩
  ·rename_i k
   exact List.pairwise_cons.2 ⟨fun z hz => by
    rcases List.mem_cons.1 ((insN_perm x ys).mem_iff.1 hz) with rfl | hz
    ·omega
    ·exact h.1 z hz, insN_sort x ys h.2⟩
def hereF (l : List Per) (acc : List Int) : List Int := l.foldl (fun a p => if p.f1 = true then insN p.f0 a else a) acc
def hereL (l : List Per) : List Int := (l.filter fun p => p.f1).map (·.f0)
theorem hereL_f {p : Per} {l : List Per} (h : p.f1 = false) : hereL (p :: l) = hereL l := by simp [hereL, h]
theorem hereL_t {p : Per} {l : List Per} (h : p.f1 = true) : hereL (p :: l) = p.f0 :: hereL l := by simp [hereL, h]
theorem hereF_perm : ∀ (l : List Per) (acc : List Int), (hereF l acc).Perm (acc ++ hereL l)
 | [], acc => by simp [hereF, hereL]
 | p :: l, acc => by
  have e : hereF (p :: l) acc = hereF l (if p.f1 = true then insN p.f0 acc else acc) := rfl
  rw [e]
  cases hp : p.f1
  ·simp only [Bool.false_eq_true, ↓reduceIte]
   have := hereF_perm l acc
   simpa [hereL, hp] using this
  ·simp only [↓reduceIte]
   have h1 := hereF_perm l (insN p.f0 acc)
   have h2 : hereL (p :: l) = p.f0 :: hereL l := by simp [hereL, hp]
   rw [h2]
   refine h1.trans (((insN_perm p.f0 acc).append_right _).trans ?_)
   exact List.perm_middle.symm
theorem hereF_sort : ∀ (l : List Per) (acc : List Int), acc.Pairwise (fun a b => a ≤ b) → (hereF l acc).Pairwise (fun a b => a ≤ b)
 | [], acc, h => h
 | p :: l, acc, h => by
  have e : hereF (p :: l) acc = hereF l (if p.f1 = true then insN p.f0 acc else acc) := rfl
  rw [e]
  split
  ·exact hereF_sort l _ (insN_sort _ _ h)
  ·exact hereF_sort l _ h
theorem sortedN (l : List Int) : (l.mergeSort fun x y => decide (x ≤ y)).Pairwise (fun a b => a ≤ b) := by
 have h := List.pairwise_mergeSort (le := fun x y : Int => decide (x ≤ y)) (fun a b c h1 h2 => by simp only [decide_eq_true_eq] at *; exact Int.le_trans h1 h2) (fun a b => by simp only [Bool.or_eq_true, decide_eq_true_eq]; exact Int.le_total a b) l
 exact h.imp (fun h => by simpa using h)
theorem here_same (l : List Per) : (hereL l).mergeSort (fun x y => decide (x ≤ y)) = hereF l [] := by
 have hp : ((hereL l).mergeSort fun x y => decide (x ≤ y)).Perm (hereF l []) := (List.mergeSort_perm _ _).trans (by simpa using (hereF_perm l []).symm)
 exact List.Perm.eq_of_pairwise (le := fun a b : Int => a ≤ b) (fun a b _ _ h1 h2 => by omega) (sortedN _) (hereF_sort l [] .nil) hp
theorem here_in (l : List Per) (x3 : List Int) (h3 : x3.length ≤ 2000000) (j : Nat) (R : List Int) : ∀ (d i : Nat) (acc : List Int), x3.length - i = d → i ≤ x3.length → acc.length + (x3.length - i) ≤ 3000000 →
  Ev (fun k => spec_HereOf.l0 k (acc ++ x3.drop i) (wrap64 ((j : Int) + 1)) l) R → Ev (fun k => spec_HereOf.l1 k x3 (j : Int) acc true (i : Int) l) R := by
 intro d
 induction d with
 | zero =>
  intro i acc h1 h2 h4 hn
  obtain rfl : i = x3.length := by omega
  refine Ev.succ ?_
  rw [List.drop_length, List.append_nil] at hn
  simp only [spec_HereOf.l1, nat_lt, Nat.lt_irrefl, ↓reduceIte]
  exact hn
 | succ d ih =>
  intro i acc h1 h2 h4 hn
  have hi : i < x3.length := by omega
  refine Ev.succ ?_
  simp only [spec_HereOf.l1, nat_lt, nat_0, hi, ↓reduceIte, rdN x3 i hi, show acc.length < 17592186044416 by omega, up_ (show i < 4611686018427387904 by omega)]
  refine ih (i + 1) (acc ++ [x3[i]]) (by omega) (by omega) (by simp; omega) ?_
  rw [List.append_assoc, List.singleton_append, ← List.drop_eq_getElem_cons hi]
  exact hn
theorem here_out (l : List Per) (x3 : List Int) (h3 : x3.length ≤ 2000000) (j : Nat) (hj : j < l.length) (R : List Int) : ∀ (d i : Nat) (acc : List Int), x3.length - i = d → i ≤ x3.length → acc.length + (x3.length - i) ≤ 2500000 →
  Ev (fun k => spec_HereOf.l0 k (acc ++ insN l[j].f0 (x3.drop i)) (wrap64 ((j : Int) + 1)) l) R → Ev (fun k => spec_HereOf.l1 k x3 (j : Int) acc false (i : Int) l) R := by
 intro d
 induction d with
 | zero =>
  intro i acc h1 h2 h4 hn
  obtain rfl : i = x3.length := by omega
  refine Ev.succ ?_
  rw [List.drop_length] at hn
  simp only [spec_HereOf.l1, nat_lt, nat_0, hj, Nat.lt_irrefl, ↓reduceIte, Bool.false_eq_true, rdPer l j hj, show acc.length < 17592186044416 by omega]
  exact hn
 | succ d ih =>
  intro i acc h1 h2 h4 hn
  have hi : i < x3.length := by omega
  rw [List.drop_eq_getElem_cons hi, insN] at hn
  refine Ev.succ ?_
  simp only [spec_HereOf.l1, nat_lt, nat_0, hi, hj, ↓reduceIte, Bool.false_eq_true, rdN x3 i hi, rdPer l j hj, show acc.length < 17592186044416 by omega, Option.bind_some, List.length_append, List.length_cons, List.length_nil, show acc.length + (0 + 1) < 17592186044416 by omega, up_ (show i < 4611686018427387904 by omega)]
  by_cases e : l[j].f0 < x3[i]
  ·simp only [e, ↓reduceIte] at hn ⊢
   refine here_in l x3 h3 j R d (i + 1) _ (by omega) (by omega) (by simp; omega) ?_
   rw [show acc ++ [l[j].f0] ++ [x3[i]] ++ x3.drop (i + 1) = acc ++ l[j].f0 :: x3[i] :: x3.drop (i + 1) by simp]
   exact hn
  ·simp only [e, ↓reduceIte] at hn ⊢
   refine ih (i + 1) (acc ++ [x3[i]]) (by omega) (by omega) (by simp; omega) ?_
   rw [List.append_assoc, List.singleton_append]
   exact hn
theorem spec_Here (l : List Per) (h : l.length ≤ 1048576) : Ev (fun k => spec_HereOf.f k l) (hereF l []) := by
 have := Ev.up l.length (fun i (s : List Int) k => spec_HereOf.l0 k s (i : Int) l) (fun i s => hereF (l.drop i) s) (fun i s => s.length ≤ i) (fun i s hi hs hn => by
  rw [List.drop_eq_getElem_cons hi]
  have e : hereF (l[i] :: l.drop (i + 1)) s = hereF (l.drop (i + 1)) (if l[i].f1 = true then insN l[i].f0 s else s) := rfl
  rw [e]
  refine Ev.succ ?_
  simp only [spec_HereOf.l0, nat_lt, nat_0, hi, ↓reduceIte, rdPer l i hi]
  cases hp : l[i].f1
  ·simp only [Bool.false_eq_true, ↓reduceIte, up_ (show i < 4611686018427387904 by omega)]
   exact hn s (by omega)
  ·simp only [↓reduceIte]
   refine here_out l s (by omega) i hi _ s.length 0 [] (by omega) (by omega) (by simp; omega) ?_
   rw [List.drop_zero, List.nil_append, up_ (show i < 4611686018427387904 by omega)]
   exact hn _ (by rw [insN_len]; omega)) (fun s hs => by
  refine Ev.succ ?_
  simp only [spec_HereOf.l0, nat_lt, Nat.lt_irrefl, ↓reduceIte, List.drop_length]
  exact Ev.now _) 0 [] (Nat.zero_le _) (Nat.le_refl _)
 simpa [spec_HereOf.f] using this
theorem impl_Here (l : List Per) (h : l.length ≤ 1048576) : Ev (fun k => impl_HereOf.f k l) (hereF l []) := by
 rw [← here_same]
 have := Ev.up l.length (fun i (s : List Int) k => impl_HereOf.l0 k s l (l.length : Int) (i : Int)) (fun i s => (s ++ hereL (l.drop i)).mergeSort (fun x y => decide (x ≤ y))) (fun i s => s.length ≤ i) (fun i s hi hs hn => by
  have hd := List.drop_eq_getElem_cons hi
  refine Ev.succ ?_
  simp only [impl_HereOf.l0, nat_lt, nat_0, hi, ↓reduceIte, rdPer l i hi, up_ (show i < 4611686018427387904 by omega)]
  cases hp : l[i].f1
  ·simp only [Bool.false_eq_true, ↓reduceIte]
   have e : hereL (l.drop i) = hereL (l.drop (i + 1)) := by rw [hd, hereL_f hp]
   rw [e]
   exact hn s (by omega)
  ·simp only [↓reduceIte, show s.length < 17592186044416 by omega]
   have e : s ++ hereL (l.drop i) = s ++ [l[i].f0] ++ hereL (l.drop (i + 1)) := by rw [hd, hereL_t hp, List.append_assoc, List.singleton_append]
   rw [e]
   exact hn _ (by simp; omega)) (fun s hs => by
  refine Ev.succ ?_
  simp only [impl_HereOf.l0, nat_lt, Nat.lt_irrefl, ↓reduceIte, slices_Sort_int_int.f, show s.length < 4611686018427387904 by omega, Option.bind_some, List.drop_length]
  have e : s ++ hereL [] = s := by simp [hereL]
  rw [e]
  exact Ev.now _) 0 [] (Nat.zero_le _) (Nat.le_refl _)
 simpa [impl_HereOf.f] using this
end Q
end Go.Proofs.Ytkimdmdkldlhpaa
