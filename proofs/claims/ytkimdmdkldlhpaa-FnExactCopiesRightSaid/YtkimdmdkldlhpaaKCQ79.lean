/-
CopiesRight, last: the places of all shelves, and what is asked of each.
-/
import Derived.Test.YtkimdmdkldlhpaaKCQ78
namespace Go.Proofs.Ytkimdmdkldlhpaa
open Go.RowKit Go.Proofs.YtkimdmdkldlhpaaW.PrintWords Go.Proofs.YtkimdmdkldlhpaaW.PrintLast Go.Proofs.YtkimdmdkldlhpaaW.PrintMore Go.Proofs.Ytkimdmdkldlhpaa.PA
set_option linter.unusedVariables false
set_option linter.unusedSimpArgs false
namespace Q
theorem in_255 (x : Int) : spec_l01In.f x 0 255 = some (decide (0 ≤ x ∧ x ≤ 255)) := by
 unfold spec_l01In.f
 by_cases h : x ≥ 0
 ·rw [if_pos h]; congr 1; simp; omega
 ·rw [if_neg h]; congr 1; simp; omega
def mk1 (a : List Bool) (s : Shf) : List Bool := if 0 ≤ s.f0 ∧ s.f0 ≤ 255 then a.set s.f0.toNat true else a
def mkP (a : List Bool) (p : Per) : List Bool := p.f5.foldl mk1 a
theorem mk1_len (a : List Bool) (s : Shf) : (mk1 a s).length = a.length := by unfold mk1; split <;> simp
theorem mkP_len (p : Per) (a : List Bool) : (mkP a p).length = a.length := by
 unfold mkP
 induction p.f5 generalizing a with
 | nil => rfl
 | cons s l ih => rw [List.foldl_cons, ih, mk1_len]
theorem mk1_get (a : List Bool) (s : Shf) (k : Nat) (hk : k < 256) (ha : a.length = 256) : (mk1 a s).getD k false = (a.getD k false || onK (k : Int) s) := by
 unfold mk1 onK
 by_cases h : 0 ≤ s.f0 ∧ s.f0 ≤ 255
 ·rw [if_pos h, List.getD_eq_getElem?_getD, List.getElem?_set]
  by_cases e : s.f0.toNat = k
  ·rw [if_pos e, if_pos (by omega), show (s.f0 == (k : Int)) = true from beq_iff_eq.2 (by omega), Bool.or_true]; rfl
  ·rw [if_neg e, show (s.f0 == (k : Int)) = false from beq_eq_false_iff_ne.2 (by omega), Bool.or_false, List.getD_eq_getElem?_getD]
 ·rw [if_neg h, show (s.f0 == (k : Int)) = false from beq_eq_false_iff_ne.2 (by omega), Bool.or_false]
theorem mkF_get (k : Nat) (hk : k < 256) : ∀ (l : List Shf) (a : List Bool), a.length = 256 → (l.foldl mk1 a).getD k false = (a.getD k false || l.any (onK (k : Int)))
 | [], a, _ => by simp
 | s :: l, a, ha => by
  rw [List.foldl_cons, mkF_get k hk l _ (by rw [mk1_len]; exact ha), mk1_get a s k hk ha, List.any_cons, Bool.or_assoc]
theorem mkL_get (k : Nat) (hk : k < 256) : ∀ (l : List Per) (a : List Bool), a.length = 256 → (l.foldl mkP a).getD k false = (a.getD k false || l.any fun p => hasS p (k : Int))
 | [], a, _ => by simp
 | p :: l, a, ha => by
  rw [List.foldl_cons, mkL_get k hk l _ (by rw [mkP_len]; exact ha), List.any_cons, show (mkP a p).getD k false = _ from mkF_get k hk p.f5 a ha, Bool.or_assoc]
  rfl
theorem mkL_len : ∀ (l : List Per) (a : List Bool), (l.foldl mkP a).length = a.length
 | [], a => rfl
 | p :: l, a => by rw [List.foldl_cons, mkL_len l, mkP_len]
theorem keys_in (l : List Per) (h : OkRing l) (j : Nat) (hj : j < l.length) (R : List Int) : ∀ (d i : Nat) (a : List Bool), l[j].f5.length - i = d → i ≤ l[j].f5.length → a.length = 256 →
  Ev (fun k => spec_l15Keys.l0 k ((l[j].f5.drop i).foldl mk1 a) (wrap64 ((j : Int) + 1)) l) R → Ev (fun k => spec_l15Keys.l1 k a (j : Int) (i : Int) l) R := by
 have hl := h.1
 have h5 := (h.2 _ (List.getElem_mem hj)).2.2.1
 intro d
 induction d with
 | zero =>
  intro i a h1 h2 ha hn
  obtain rfl : i = l[j].f5.length := by omega
  rw [List.drop_length] at hn
  refine Ev.succ ?_
  simp only [spec_l15Keys.l1, nat_lt, nat_0, hj, ↓reduceIte, rdPer l j hj, Nat.lt_irrefl]
  exact hn
 | succ d ih =>
  intro i a h1 h2 ha hn
  have hi : i < l[j].f5.length := by omega
  rw [List.drop_eq_getElem_cons hi, List.foldl_cons] at hn
  have hx := ih (i + 1) (mk1 a l[j].f5[i]) (by omega) (by omega) (by rw [mk1_len]; exact ha) hn
  refine Ev.succ ?_
  simp only [spec_l15Keys.l1, nat_lt, nat_0, hj, hi, ↓reduceIte, rdPer l j hj, rdShf _ i hi, in_255, Option.bind_some, up_ (show i < 4611686018427387904 by omega)]
  unfold mk1 at hx
  by_cases c : 0 ≤ l[j].f5[i].f0 ∧ l[j].f5[i].f0 ≤ 255
  ·rw [if_pos c] at hx
   simp only [c, decide_true, ↓reduceIte, and_self, show l[j].f5[i].f0 < (a.length : Int) by omega]
   exact hx
  ·rw [if_neg c] at hx
   simp only [c, decide_false, Bool.false_eq_true, ↓reduceIte]
   exact hx
def keyL (l : List Per) : List Nat := (List.range 256).filter fun k => l.any fun p => hasS p (k : Int)
theorem rdOf_get (a : List Bool) (i : Nat) : rdOf false a (i : Int) = a.getD i false := by simp [rdOf]
theorem keys_out (a : List Bool) (ha : a.length = 256) : ∀ (d i : Nat) (acc : List Int), 256 - i = d → i ≤ 256 → acc.length ≤ i →
  Ev (fun k => spec_l15Keys.l2 k a acc (i : Int)) (acc ++ ((List.range' i (256 - i)).filter fun k => a.getD k false).map fun k : Nat => (k : Int)) := by
 intro d
 induction d with
 | zero =>
  intro i acc h1 h2 h3
  obtain rfl : i = 256 := by omega
  refine Ev.succ ?_
  simp only [spec_l15Keys.l2, ha, show ¬ ((256 : Nat) : Int) < ((256 : Nat) : Int) by omega, ↓reduceIte]
  rw [Nat.sub_self, List.range'_zero, List.filter_nil, List.map_nil, List.append_nil]
  exact Ev.now acc
 | succ d ih =>
  intro i acc h1 h2 h3
  rw [show 256 - i = (256 - (i + 1)) + 1 by omega, List.range'_succ, List.filter_cons]
  refine Ev.succ ?_
  simp only [spec_l15Keys.l2, ha, show (i : Int) < ((256 : Nat) : Int) by omega, nat_0, ↓reduceIte, rdOf_get, up_ (show i < 4611686018427387904 by omega), show acc.length < 17592186044416 by omega]
  by_cases c : a.getD i false = true
  ·simp only [c, ↓reduceIte, List.map_cons]
   have := ih (i + 1) (acc ++ [(i : Int)]) (by omega) (by omega) (by simp; omega)
   rwa [List.append_assoc, List.singleton_append] at this
  ·simp only [c, ↓reduceIte, Bool.false_eq_true]
   exact ih (i + 1) acc (by omega) (by omega) (by omega)
theorem spec_Keys (l : List Per) (h : OkRing l) : Ev (fun k => spec_l15Keys.f k l) ((keyL l).map fun k : Nat => (k : Int)) := by
 have hl := h.1
 unfold spec_l15Keys.f
 simp only [show 256 ≤ 281474976710656 by omega, ↓reduceIte]
 refine Ev.up l.length (fun i (a : List Bool) k => spec_l15Keys.l0 k a (i : Int) l) (fun i a => (keyL l).map fun k : Nat => (k : Int)) (fun i a => a = (l.take i).foldl mkP (List.replicate 256 false)) (fun i a hi ha hn => ?_) (fun a ha => ?_) 0 _ (Nat.zero_le _) rfl
 ·have hal : a.length = 256 := by rw [ha, mkL_len, List.length_replicate]
  refine Ev.succ ?_
  simp only [spec_l15Keys.l0, nat_lt, hi, ↓reduceIte]
  refine keys_in l h i hi _ l[i].f5.length 0 a (by omega) (by omega) hal ?_
  rw [List.drop_zero, up_ (show i < 4611686018427387904 by omega)]
  refine hn _ ?_
  rw [List.take_succ_eq_append_getElem hi, List.foldl_append, ← ha]
  rfl
 ·have hal : a.length = 256 := by rw [ha, mkL_len, List.length_replicate]
  refine Ev.succ ?_
  simp only [spec_l15Keys.l0, nat_lt, Nat.lt_irrefl, ↓reduceIte]
  have := keys_out a hal 256 0 [] (by omega) (by omega) (by simp)
  rw [List.nil_append, ← List.range_eq_range'] at this
  have e : (List.range 256).filter (fun k => a.getD k false) = keyL l := by
   unfold keyL
   refine List.filter_congr fun k hk => ?_
   have hk2 := List.mem_range.1 hk
   rw [ha, mkL_get k hk2 _ _ (by rw [List.length_replicate]), List.take_length, List.getD_eq_getElem?_getD, List.getElem?_replicate, if_pos hk2]
   rfl
  rw [show (256 : Nat) - 0 = 256 from rfl, e] at this
  exact this
def neI (a b : Itm) : Bool := !(a.f0.toList == b.f0.toList) || !(a.f1 == b.f1)
def sameI (a b : List Itm) : Bool := if a.length = b.length then allFrom (fun j => !neI (rd_T52 a (j : Int)) (rd_T52 b (j : Int))) a.length 0 else false
theorem spec_itms (a b : List Itm) (h : a.length ≤ 3000000) : Ev (fun k => spec_l15Items.f k a b) (sameI a b) := by
 unfold spec_l15Items.f sameI
 by_cases e : a.length = b.length
 ·simp only [show (a.length : Int) = (b.length : Int) by omega, e, ↓reduceIte]
  rw [← e]
  refine Ev.up0 a.length (fun i k => spec_l15Items.l0 k a b (i : Int)) (fun i => allFrom (fun j => !neI (rd_T52 a (j : Int)) (rd_T52 b (j : Int))) a.length i) (fun i hi hn => ?_) ?_ 0 (Nat.zero_le _)
  ·rw [allFrom_lt hi]
   refine Ev.succ ?_
   simp only [spec_l15Items.l0, nat_lt, nat_0, hi, ↓reduceIte, show i < b.length by omega, up_ (show i < 4611686018427387904 by omega)]
   cases c : neI (rd_T52 a (i : Int)) (rd_T52 b (i : Int))
   ·unfold neI at c
    simp only [c, Bool.false_eq_true, ↓reduceIte, Bool.not_false, Bool.true_and]
    exact hn
   ·unfold neI at c
    simp only [c, ↓reduceIte, Bool.not_true, Bool.false_and]
    exact Ev.now _
  ·rw [allFrom_ge (Nat.lt_irrefl _)]
   refine Ev.succ ?_
   simp only [spec_l15Items.l0, nat_lt, Nat.lt_irrefl, ↓reduceIte]
   exact Ev.now _
 ·simp only [show ¬ (a.length : Int) = (b.length : Int) by omega, e, ↓reduceIte]
  exact Ev.now _
theorem impl_itms (a b : List Itm) (h : a.length ≤ 3000000) : Ev (fun k => impl_Item_26.f k a b) (sameI a b) := by
 unfold impl_Item_26.f sameI
 by_cases e : a.length = b.length
 ·simp only [show (a.length : Int) = (b.length : Int) by omega, e, ↓reduceIte]
  rw [← e]
  refine Ev.up0 a.length (fun i k => impl_Item_26.l0 k a b (a.length : Int) (i : Int)) (fun i => allFrom (fun j => !neI (rd_T52 a (j : Int)) (rd_T52 b (j : Int))) a.length i) (fun i hi hn => ?_) ?_ 0 (Nat.zero_le _)
  ·rw [allFrom_lt hi]
   refine Ev.succ ?_
   simp only [impl_Item_26.l0, nat_lt, nat_0, hi, ↓reduceIte, show i < b.length by omega, up_ (show i < 4611686018427387904 by omega)]
   cases c : neI (rd_T52 a (i : Int)) (rd_T52 b (i : Int))
   ·unfold neI at c
    simp only [c, Bool.false_eq_true, ↓reduceIte, Bool.not_false, Bool.true_and]
    exact hn
   ·unfold neI at c
    simp only [c, ↓reduceIte, Bool.not_true, Bool.false_and]
    exact Ev.now _
  ·rw [allFrom_ge (Nat.lt_irrefl _)]
   refine Ev.succ ?_
   simp only [impl_Item_26.l0, nat_lt, Nat.lt_irrefl, ↓reduceIte]
   exact Ev.now _
 ·simp only [show ¬ (a.length : Int) = (b.length : Int) by omega, e, ↓reduceIte]
  exact Ev.now _
def perOk (all : List Itm) (hs : List Int) (key : Int) (p : Per) : Bool := if hasN hs p.f0 = true then sameI (shelfL p key) all else !hasS p key
def keyOk (l : List Per) (key : Int) : Bool := l.all (perOk (allOfK l key []) (holdL l (ownI (hereF l []) key)) key)
theorem shelf_small (l : List Per) (hw : (l.map wPer).sum ≤ 1048576) (i : Nat) (hi : i < l.length) (key : Int) : (shelfL l[i] key).length ≤ 1048576 := by
 have h1 := shelf_len l[i] key
 have h2 := le_sum wPer (List.getElem_mem hi)
 omega
theorem spec_peers (l : List Per) (h : OkRing l) (hw : (l.map wPer).sum ≤ 1048576) (keys here : List Int) (m : Nat) (hm : m < keys.length) (all : List Itm) (hs : List Int) (hh : hs.length ≤ 2000000) (R : Bool)
  (hn : Ev (fun k => spec_CopiesRight.l0 k keys here (wrap64 ((m : Int) + 1)) l) R) : Ev (fun k => spec_CopiesRight.l1 k keys here (m : Int) all hs 0 l) (if l.all (perOk all hs keys[m]) = true then R else false) := by
 have hl := h.1
 have := Ev.up0 l.length (fun i k => spec_CopiesRight.l1 k keys here (m : Int) all hs (i : Int) l) (fun i => if (l.drop i).all (perOk all hs keys[m]) = true then R else false) (fun i hi hn => by
  have hp := h.2 _ (List.getElem_mem hi)
  rw [List.drop_eq_getElem_cons hi, List.all_cons]
  refine Ev.succ ?_
  simp only [spec_CopiesRight.l1, nat_lt, nat_0, hi, hm, ↓reduceIte, rdPer l i hi, rdN keys m hm, up_ (show i < 4611686018427387904 by omega)]
  refine Ev.bind (spec_hasN hs l[i].f0 hh) ?_
  cases c : hasN hs l[i].f0
  ·simp only [Bool.false_eq_true, ↓reduceIte]
   refine Ev.bind (spec_HasS l[i] keys[m] hp) ?_
   unfold perOk
   rw [c]
   cases hasS l[i] keys[m]
   ·simp only [Bool.false_eq_true, ↓reduceIte, Bool.not_false, Bool.true_and]; exact hn
   ·simp only [Bool.false_eq_true, ↓reduceIte, Bool.not_true, Bool.false_and]; exact Ev.now _
  ·simp only [↓reduceIte]
   refine Ev.bind (spec_Shelf l[i] keys[m] hp) (Ev.bind (spec_itms _ all (by have := shelf_small l hw i hi keys[m]; omega)) ?_)
   unfold perOk
   rw [c]
   cases sameI (shelfL l[i] keys[m]) all
   ·simp only [Bool.false_eq_true, ↓reduceIte, Bool.false_and]; exact Ev.now _
   ·simp only [↓reduceIte, Bool.true_and]; exact hn) (by
  refine Ev.succ ?_
  simp only [spec_CopiesRight.l1, nat_lt, Nat.lt_irrefl, ↓reduceIte, List.drop_length, List.all_nil]
  exact hn) 0 (Nat.zero_le _)
 simpa using this
theorem impl_peers (l : List Per) (h : OkRing l) (hw : (l.map wPer).sum ≤ 1048576) (here : List Int) (key : Int) (all : List Itm) (hs : List Int) (hh : hs.length ≤ 2000000) (R : Bool)
  (hn : Ev (fun k => impl_CopiesRight.l0 k here (wrap64 (key + 1)) l) R) : Ev (fun k => impl_CopiesRight.l1 k here key all hs key l (l.length : Int) 0 l) (if l.all (perOk all hs key) = true then R else false) := by
 have hl := h.1
 have := Ev.up0 l.length (fun i k => impl_CopiesRight.l1 k here key all hs key l (l.length : Int) (i : Int) l) (fun i => if (l.drop i).all (perOk all hs key) = true then R else false) (fun i hi hn => by
  have hp := h.2 _ (List.getElem_mem hi)
  rw [List.drop_eq_getElem_cons hi, List.all_cons]
  refine Ev.succ ?_
  simp only [impl_CopiesRight.l1, nat_lt, nat_0, hi, ↓reduceIte, rdPer l i hi, up_ (show i < 4611686018427387904 by omega)]
  refine Ev.bind (impl_at l[i] key hp) (Ev.bind (impl_hasN hs l[i].f0 hh) ?_)
  have ha := at_has l[i] key
  cases c : hasN hs l[i].f0
  ·unfold perOk
   rw [c]
   cases e : hasS l[i] key
   ·rw [e] at ha
    simp only [of_decide_eq_false ha, Bool.false_eq_true, ↓reduceIte, Bool.not_false, Bool.true_and]; exact hn
   ·rw [e] at ha
    simp only [of_decide_eq_true ha, Bool.false_eq_true, ↓reduceIte, Bool.not_true, Bool.false_and]; exact Ev.now _
  ·simp only [↓reduceIte]
   refine Ev.bind (impl_Shelf_ l[i] key hp) (Ev.bind (impl_itms _ all (by have := shelf_small l hw i hi key; omega)) ?_)
   unfold perOk
   rw [c]
   cases sameI (shelfL l[i] key) all
   ·simp only [Bool.false_eq_true, ↓reduceIte, Bool.false_and]; exact Ev.now _
   ·simp only [↓reduceIte, Bool.true_and]; exact hn) (by
  refine Ev.succ ?_
  simp only [impl_CopiesRight.l1, nat_lt, Nat.lt_irrefl, ↓reduceIte, List.drop_length, List.all_nil]
  exact hn) 0 (Nat.zero_le _)
 simpa using this
def copiesB (l : List Per) : Bool := (List.range 256).all fun k => !(l.any fun p => hasS p (k : Int)) || keyOk l (k : Int)
theorem spec_Copies (l : List Per) (h : OkRing l) (hw : (l.map wPer).sum ≤ 1048576) : Ev (fun k => spec_CopiesRight.f k l) (copiesB l) := by
 have hl := h.1
 have hk : (keyL l).length ≤ 256 := by
  have := List.length_filter_le (fun k : Nat => l.any fun p => hasS p (k : Int)) (List.range 256)
  rw [List.length_range] at this
  exact this
 unfold spec_CopiesRight.f
 refine Ev.bind (spec_Keys l h) (Ev.bind (spec_Here l h.1) ?_)
 have e : copiesB l = (keyL l).all fun k => keyOk l (k : Int) := by
  unfold copiesB keyL
  rw [List.all_filter]
 rw [e]
 have hh : (hereF l []).length ≤ 1048576 := by
  have h1 := (hereF_perm l []).length_eq
  have h2 := List.length_filter_le (fun p : Per => p.f1) l
  rw [h1, List.nil_append]
  unfold hereL
  rw [List.length_map]
  omega
 have hlen : ((keyL l).map fun k : Nat => (k : Int)).length = (keyL l).length := List.length_map _
 have := Ev.up0 (keyL l).length (fun i k => spec_CopiesRight.l0 k ((keyL l).map fun k : Nat => (k : Int)) (hereF l []) (i : Int) l) (fun i => ((keyL l).drop i).all fun k => keyOk l (k : Int)) (fun i hi hn => by
  rw [List.drop_eq_getElem_cons hi, List.all_cons]
  have hi2 : i < ((keyL l).map fun k : Nat => (k : Int)).length := by omega
  have hg : rd ((keyL l).map fun k : Nat => (k : Int)) (i : Int) = (((keyL l)[i] : Nat) : Int) := by rw [rdN _ i hi2, List.getElem_map]
  refine Ev.succ ?_
  simp only [spec_CopiesRight.l0, nat_lt, nat_0, hi2, ↓reduceIte, hg]
  refine Ev.bind (spec_All l _ h hw) (Ev.bind (spec_Owner _ _ hh) (Ev.bind (spec_Hold l h _) ?_))
  have := spec_peers l h hw ((keyL l).map fun k : Nat => (k : Int)) (hereF l []) i hi2 (allOfK l (((keyL l)[i] : Nat) : Int) []) (holdL l (ownI (hereF l []) (((keyL l)[i] : Nat) : Int))) (by have := holdL_len l h (ownI (hereF l []) (((keyL l)[i] : Nat) : Int)); omega) _ (by rw [up_ (show i < 4611686018427387904 by omega)]; exact hn)
  rw [List.getElem_map] at this
  unfold keyOk at this ⊢
  generalize l.all _ = q at this ⊢
  cases q
  ·simpa using this
  ·simpa using this) (by
  refine Ev.succ ?_
  simp only [spec_CopiesRight.l0, nat_lt, hlen, Nat.lt_irrefl, ↓reduceIte, List.drop_length, List.all_nil]
  exact Ev.now _) 0 (Nat.zero_le _)
 simpa using this
theorem impl_Copies (l : List Per) (h : OkRing l) (hw : (l.map wPer).sum ≤ 1048576) : Ev (fun k => impl_CopiesRight.f k l) (copiesB l) := by
 have hl := h.1
 have hh : (hereF l []).length ≤ 1048576 := by
  have h1 := (hereF_perm l []).length_eq
  have h2 := List.length_filter_le (fun p : Per => p.f1) l
  rw [h1, List.nil_append]
  unfold hereL
  rw [List.length_map]
  omega
 unfold impl_CopiesRight.f
 refine Ev.bind (impl_Here l h.1) ?_
 have := Ev.up0 256 (fun i k => impl_CopiesRight.l0 k (hereF l []) (i : Int) l) (fun i => (List.range' i (256 - i)).all fun k => !(l.any fun p => hasS p (k : Int)) || keyOk l (k : Int)) (fun i hi hn => by
  rw [show 256 - i = (256 - (i + 1)) + 1 by omega, List.range'_succ, List.all_cons]
  refine Ev.succ ?_
  simp only [impl_CopiesRight.l0, show (i : Int) < 256 by omega, ↓reduceIte, up_ (show i < 4611686018427387904 by omega)]
  refine Ev.bind (impl_every l (i : Int) h hw) ?_
  cases c : l.any fun p => hasS p (i : Int)
  ·simp only [Bool.false_eq_true, ↓reduceIte, Bool.not_false, Bool.true_or, Bool.true_and]
   exact hn
  ·simp only [↓reduceIte, Bool.not_true, Bool.false_or]
   refine Ev.bind (impl_Owner _ _ hh) (Ev.bind (impl_Hold l h _) ?_)
   have := impl_peers l h hw (hereF l []) (i : Int) (allOfK l (i : Int) []) (holdL l (ownI (hereF l []) (i : Int))) (by have := holdL_len l h (ownI (hereF l []) (i : Int)); omega) _ (by rw [up_ (show i < 4611686018427387904 by omega)]; exact hn)
   unfold keyOk at this ⊢
   generalize l.all _ = q at this ⊢
   cases q
   ·simpa using this
   ·simpa using this) (by
  refine Ev.succ ?_
  simp only [impl_CopiesRight.l0, show ¬ (((256 : Nat) : Int) < 256) by omega, ↓reduceIte]
  exact Ev.now _) 0 (Nat.zero_le _)
 rw [← List.range_eq_range'] at this
 exact this
end Q
end Go.Proofs.Ytkimdmdkldlhpaa
