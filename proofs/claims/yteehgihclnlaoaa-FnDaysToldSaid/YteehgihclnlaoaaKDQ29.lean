/-
The days on which words end, in order, each once: by the reference (put in its place) and by the program (sorted, then compacted).
-/
import Derived.Test.YteehgihclnlaoaaKDQ38
namespace Go.Proofs.Yteehgihclnlaoaa
open Go.RowKit Go.Proofs.YteehgihclnlaoaaW.PrintWords Go.Proofs.YteehgihclnlaoaaW.PrintLast Go.Proofs.YteehgihclnlaoaaW.PrintMore Go.Proofs.Yteehgihclnlaoaa.PA
set_option linter.unusedVariables false
set_option linter.unusedSimpArgs false
namespace Q
def insS (n : Int) : List Int → List Int
 | [] => [n]
 | x :: xs => if n < x then n :: x :: xs else x :: insS n xs
theorem mem_insS {n x : Int} : ∀ l : List Int, x ∈ insS n l ↔ x = n ∨ x ∈ l := by
 intro l
 induction l with
 | nil => simp [insS]
 | cons y ys ih =>
  unfold insS
  split
  ·simp
  ·rw [List.mem_cons, ih, List.mem_cons]
   constructor
   ·rintro (h | h | h)
    ·exact .inr (.inl h)
    ·exact .inl h
    ·exact .inr (.inr h)
   ·rintro (h | h | h)
    ·exact .inr (.inl h)
    ·exact .inl h
    ·exact .inr (.inr h)
theorem insS_sorted {n : Int} : ∀ l : List Int, l.Pairwise (fun a b => a < b) → n ∉ l → (insS n l).Pairwise (fun a b => a < b) := by
 intro l
 induction l with
 | nil => intro _ _; simp [insS]
 | cons y ys ih =>
  intro h hn
  rw [List.pairwise_cons] at h
  unfold insS
  split
  ·rename_i hlt
   rw [List.pairwise_cons, List.pairwise_cons]
   refine ⟨fun z hz => ?_, h⟩
   rcases List.mem_cons.1 hz with rfl | hz
   ·exact hlt
   ·have := h.1 z hz; omega
  ·rename_i hlt
   rw [List.pairwise_cons]
   refine ⟨fun z hz => ?_, ih h.2 (fun h' => hn (List.mem_cons_of_mem _ h'))⟩
   rcases (mem_insS ys).1 hz with rfl | hz
   ·have : z ≠ y := fun e => hn (by rw [e]; exact List.mem_cons_self ..)
    omega
   ·exact h.1 z hz
theorem insS_len (n : Int) : ∀ l : List Int, (insS n l).length = l.length + 1 := by
 intro l
 induction l with
 | nil => rfl
 | cons y ys ih =>
  unfold insS
  split
  ·simp
  ·rw [List.length_cons, ih, List.length_cons]
theorem same_sorted {s t : List Int} (hs : s.Pairwise (fun a b => a < b)) (ht : t.Pairwise (fun a b => a < b)) (hm : ∀ x, x ∈ s ↔ x ∈ t) : s = t := by
 have h1 : s.Nodup := hs.imp (fun h => by omega)
 have h2 : t.Nodup := ht.imp (fun h => by omega)
 exact List.Perm.eq_of_pairwise (le := fun a b : Int => a ≤ b) (fun a b _ _ h1 h2 => by omega) (hs.imp (fun h => by omega)) (ht.imp (fun h => by omega)) ((List.perm_ext_iff_of_nodup h1 h2).2 hm)
def endC (s : List Int) (c : Cr) : List Int := if cOk c = true then (if c.f5 + 1 ∈ s then s else insS (c.f5 + 1) s) else s
def endsD (list : List Cr) : List Int := list.foldl endC []
theorem endC_sorted {s : List Int} (h : s.Pairwise (fun a b => a < b)) (c : Cr) : (endC s c).Pairwise (fun a b => a < b) := by
 unfold endC
 split
 ·split
  ·exact h
  ·rename_i hn
   exact insS_sorted s h hn
 ·exact h
theorem mem_endC {s : List Int} {c : Cr} {x : Int} : x ∈ endC s c ↔ x ∈ s ∨ (cOk c = true ∧ x = c.f5 + 1) := by
 unfold endC
 by_cases h : cOk c = true
 ·rw [if_pos h]
  by_cases h1 : c.f5 + 1 ∈ s
  ·rw [if_pos h1]
   exact ⟨.inl, fun h' => h'.elim id (fun h' => by rw [h'.2]; exact h1)⟩
  ·rw [if_neg h1, mem_insS]
   exact ⟨fun h' => h'.elim (fun e => .inr ⟨h, e⟩) .inl, fun h' => h'.elim .inr (fun e => .inl e.2)⟩
 ·rw [if_neg h]
  exact ⟨.inl, fun h' => h'.elim id (fun h' => absurd h'.1 h)⟩
theorem endC_len (s : List Int) (c : Cr) : (endC s c).length ≤ s.length + 1 := by
 unfold endC
 split
 ·split
  ·omega
  ·rw [insS_len]; omega
 ·omega
theorem ends_fold : ∀ (list : List Cr) (s : List Int), s.Pairwise (fun a b => a < b) → (list.foldl endC s).Pairwise (fun a b => a < b) ∧ (∀ x, x ∈ list.foldl endC s ↔ x ∈ s ∨ ∃ c ∈ list, cOk c = true ∧ x = c.f5 + 1) ∧ (list.foldl endC s).length ≤ s.length + list.length := by
 intro list
 induction list with
 | nil => exact fun s h => ⟨h, fun x => by simp, by simp⟩
 | cons c cs ih =>
  intro s h
  obtain ⟨h1, h2, h3⟩ := ih _ (endC_sorted h c)
  refine ⟨h1, fun x => ?_, ?_⟩
  ·rw [List.foldl_cons, h2, mem_endC]
   constructor
   ·rintro ((h | h) | ⟨d, hd, h⟩)
    ·exact .inl h
    ·exact .inr ⟨c, List.mem_cons_self .., h⟩
    ·exact .inr ⟨d, List.mem_cons_of_mem _ hd, h⟩
   ·rintro (h | ⟨d, hd, h⟩)
    ·exact .inl (.inl h)
    ·rcases List.mem_cons.1 hd with rfl | hd
     ·exact .inl (.inr h)
     ·exact .inr ⟨d, hd, h⟩
  ·have := endC_len s c
   rw [List.foldl_cons, List.length_cons]
   omega
theorem mem_endsD {list : List Cr} {x : Int} : x ∈ endsD list ↔ ∃ c ∈ list, cOk c = true ∧ x = c.f5 + 1 := by
 unfold endsD
 rw [(ends_fold list [] List.Pairwise.nil).2.1]
 simp
theorem endsD_sorted (list : List Cr) : (endsD list).Pairwise (fun a b => a < b) := (ends_fold list [] List.Pairwise.nil).1
theorem endsD_len (list : List Cr) : (endsD list).length ≤ list.length := by have := (ends_fold list [] List.Pairwise.nil).2.2; simpa [endsD] using this
theorem comp_inv (d : Array Int) (hd : ∀ i j, i ≤ j → j < d.size → d[i]! ≤ d[j]!) : ∀ m, m ≤ d.size →
  (Lib.compactUpTo d m).Pairwise (fun a b => a < b) ∧ (∀ x, x ∈ Lib.compactUpTo d m ↔ ∃ j, j < m ∧ d[j]! = x) := by
 intro m
 induction m with
 | zero => intro _; exact ⟨by simp [Lib.compactUpTo], fun x => by simp [Lib.compactUpTo]⟩
 | succ m ih =>
  intro hm
  obtain ⟨h1, h2⟩ := ih (by omega)
  rw [Lib.compactUpTo_succ]
  by_cases hk : Lib.keeps d m = true
  ·rw [if_pos hk]
   refine ⟨?_, fun x => ?_⟩
   ·rw [List.pairwise_append]
    refine ⟨h1, by simp, fun a ha b hb => ?_⟩
    rw [List.mem_singleton] at hb
    subst hb
    obtain ⟨j, hj, rfl⟩ := (h2 a).1 ha
    unfold Lib.keeps at hk
    rw [decide_eq_true_eq] at hk
    rcases hk with hk | hk
    ·omega
    ·have h3 := hd j (m - 1) (by omega) (by omega)
     have h4 := hd (m - 1) m (by omega) (by omega)
     omega
   ·rw [List.mem_append, h2, List.mem_singleton]
    constructor
    ·rintro (⟨j, hj, h⟩ | h)
     ·exact ⟨j, by omega, h⟩
     ·exact ⟨m, by omega, h.symm⟩
    ·rintro ⟨j, hj, h⟩
     by_cases e : j = m
     ·subst e; exact .inr h.symm
     ·exact .inl ⟨j, by omega, h⟩
  ·rw [if_neg hk, List.append_nil]
   refine ⟨h1, fun x => ?_⟩
   rw [h2]
   unfold Lib.keeps at hk
   rw [decide_eq_true_eq] at hk
   constructor
   ·rintro ⟨j, hj, h⟩
    exact ⟨j, by omega, h⟩
   ·rintro ⟨j, hj, h⟩
    by_cases e : j = m
    ·subst e
     have hz : j ≠ 0 := fun h' => hk (.inl h')
     have h5 : d[j]! = d[j - 1]! := Classical.byContradiction (fun h' => hk (.inr h'))
     exact ⟨j - 1, by omega, by rw [← h5]; exact h⟩
    ·exact ⟨j, by omega, h⟩
theorem compact_sorted (l : List Int) (h : l.Pairwise (fun a b => a ≤ b)) : (Lib.compact l).Pairwise (fun a b => a < b) ∧ ∀ x, x ∈ Lib.compact l ↔ x ∈ l := by
 have hg : ∀ j (hj : j < l.length), l.toArray[j]! = l[j] := fun j hj => by rw [getElem!_pos l.toArray j (by simpa using hj)]; simp
 have key := comp_inv l.toArray (fun i j hij hj => by
  have hj' : j < l.length := by simpa using hj
  rw [hg i (by omega), hg j hj']
  rcases Nat.eq_or_lt_of_le hij with rfl | hlt
  ·exact Int.le_refl _
  ·exact List.pairwise_iff_getElem.1 h i j (by omega) hj' hlt) l.toArray.size (Nat.le_refl _)
 have e : Lib.compact l = Lib.compactUpTo l.toArray l.toArray.size := by unfold Lib.compact; simp
 rw [e]
 refine ⟨key.1, fun x => ?_⟩
 rw [key.2]
 constructor
 ·rintro ⟨j, hj, rfl⟩
  have hj' : j < l.length := by simpa using hj
  rw [hg j hj']
  exact List.getElem_mem _
 ·intro hx
  obtain ⟨j, hj, rfl⟩ := List.getElem_of_mem hx
  exact ⟨j, by simpa using hj, hg j hj⟩
theorem ends_same (list : List Cr) : Lib.compact (((list.filter fun c => cOk c).map fun c => c.f5 + 1).mergeSort fun x y => decide (x ≤ y)) = endsD list := by
 obtain ⟨h1, h2⟩ := compact_sorted _ (leI_sorted ((list.filter fun c => cOk c).map fun c => c.f5 + 1))
 refine same_sorted h1 (endsD_sorted list) (fun x => ?_)
 rw [h2, List.mem_mergeSort, mem_endsD]
 simp only [List.mem_map, List.mem_filter]
 constructor
 ·rintro ⟨c, ⟨hc, ok⟩, rfl⟩
  exact ⟨c, hc, ok, rfl⟩
 ·rintro ⟨c, hc, ok, rfl⟩
  exact ⟨c, ⟨hc, ok⟩, rfl⟩
theorem cOk_until {c : Cr} (ok : cOk c = true) : wrap64 (c.f5 + 1) = c.f5 + 1 := by
 have := credOk_bounds ok
 exact w64 (by omega) (by omega)
theorem impl_Ends (list : List Cr) (hl : list.length ≤ 1048576) : Ev (fun k => impl_EndsOf.f k list) (endsD list) := by
 unfold impl_EndsOf.f
 rw [← ends_same]
 have key := Ev.up list.length (fun i (s : List Int) k => impl_EndsOf.l0 k s list list.length i) (fun i s => Lib.compact ((s ++ ((list.drop i).filter fun (c : Cr) => cOk c).map fun (c : Cr) => c.f5 + 1).mergeSort fun x y => decide (x ≤ y))) (fun i s => s.length ≤ i) ?_ ?_ 0 [] (Nat.zero_le _) (by simp)
 ·exact key
 ·intro i s hi hs ih
  refine Ev.succ ?_
  simp only [impl_EndsOf.l0, nat_lt, nat_0, hi, ↓reduceIte, rd_T48, getD_ _ hi, getDn_ _ hi, up_ (show i < 4611686018427387904 by omega), show s.length < 17592186044416 by omega]
  refine Ev.bind (impl_CredOk _ _ _ _ _ _ _ _ _ _) ?_
  change Ev (fun k => if cOk list[i] = true then _ else _) _
  rw [List.drop_eq_getElem_cons hi, List.filter_cons]
  cases ok : cOk list[i]
  ·simp only [Bool.false_eq_true, ↓reduceIte]
   exact ih s (by omega)
  ·simp only [↓reduceIte, List.map_cons, cOk_until ok]
   have h2 := ih (s ++ [list[i].f5 + 1]) (by simp; omega)
   rw [List.append_assoc, List.singleton_append] at h2
   exact h2
 ·intro s hs
  refine Ev.succ ?_
  simp only [impl_EndsOf.l0, nat_lt, Nat.lt_irrefl, ↓reduceIte, List.drop_length, List.filter_nil, List.map_nil, List.append_nil]
  unfold slices_Sort_int_int.f slices_Compact_int_int.f
  rw [if_pos (by omega)]
  simp only [Option.bind_some, List.length_mergeSort, show s.length < 4611686018427387904 by omega, ↓reduceIte]
  exact Ev.now _
theorem spec_hasI (l : List Int) (n : Int) (h : l.length ≤ 1048576) : Ev (fun k => spec_l08Has.f k l n) (decide (n ∈ l)) := by
 unfold spec_l08Has.f
 refine Ev.up0 l.length (fun i k => spec_l08Has.l0 k l n i) (fun i => decide (n ∈ l.drop i)) ?_ ?_ 0 (Nat.zero_le _)
 ·intro i hi hn
  refine Ev.succ ?_
  simp only [spec_l08Has.l0, nat_lt, nat_0, hi, ↓reduceIte, rdI hi, up_ (show i < 4611686018427387904 by omega)]
  rw [List.drop_eq_getElem_cons hi]
  by_cases e : l[i] = n
  ·simp only [e, ↓reduceIte, List.mem_cons, true_or, decide_true]
   exact Ev.now _
  ·have e3 : ¬ n = l[i] := fun h => e h.symm
   simp only [e, ↓reduceIte, List.mem_cons, e3, false_or]
   exact hn
 ·refine Ev.succ ?_
  simp only [spec_l08Has.l0, nat_lt, Nat.lt_irrefl, ↓reduceIte, List.drop_length, List.not_mem_nil, decide_false]
  exact Ev.now _
theorem spec_ins (list : List Cr) (s : List Int) (i : Nat) (hi : i < 4611686018427387904) (n : Int) (hs : s.length ≤ 1048576) (R : List Int) (hn : Ev (fun k => spec_EndsOf.l0 k list (insS n s) ((i + 1 : Nat) : Int)) R) :
  Ev (fun k => spec_EndsOf.l1 k list s i n [] false 0) R := by
 obtain ⟨W, hW⟩ : ∃ W, insS n s = W := ⟨_, rfl⟩
 rw [hW] at hn
 have key := Ev.up s.length (fun j (t : List Int × Bool) k => spec_EndsOf.l1 k list s i n t.1 t.2 j) (fun _ _ => R) (fun j t => t.1.length ≤ j + (if t.2 = true then 1 else 0) ∧ t.1 ++ (if t.2 = true then s.drop j else insS n (s.drop j)) = W) ?_ ?_ 0 ([], false) (Nat.zero_le _) ⟨by simp, by simpa using hW⟩
 ·exact key
 ·rintro j ⟨t, b⟩ hj ⟨h1, h2⟩ ih
  simp only at h1 h2
  have h3 : t.length ≤ j + 1 := by split at h1 <;> omega
  refine Ev.succ ?_
  simp only [spec_EndsOf.l1, nat_lt, nat_0, hj, ↓reduceIte, rdI hj, up_ (show j < 4611686018427387904 by omega), show t.length < 17592186044416 by omega, Option.bind_some, List.length_append, List.length_singleton, show t.length + 1 < 17592186044416 by omega]
  rw [List.drop_eq_getElem_cons hj] at h2
  cases b
  ·simp only [Bool.false_eq_true, ↓reduceIte, Nat.add_zero] at h1 h2 ⊢
   unfold insS at h2
   by_cases hlt : n < s[j]
   ·rw [if_pos hlt] at h2
    simp only [hlt, ↓reduceIte]
    refine ih (t ++ [n] ++ [s[j]], true) ⟨by simp; omega, ?_⟩
    simp only [↓reduceIte]
    rw [← h2]
    simp
   ·rw [if_neg hlt] at h2
    simp only [hlt, ↓reduceIte]
    refine ih (t ++ [s[j]], false) ⟨by simp; omega, ?_⟩
    simp only [Bool.false_eq_true, ↓reduceIte]
    rw [← h2]
    simp
  ·simp only [↓reduceIte] at h1 h2 ⊢
   refine ih (t ++ [s[j]], true) ⟨by simp; omega, ?_⟩
   simp only [↓reduceIte]
   rw [← h2]
   simp
 ·rintro ⟨t, b⟩ ⟨h1, h2⟩
  simp only at h1 h2
  have h3 : t.length ≤ s.length + 1 := by split at h1 <;> omega
  rw [List.drop_length] at h2
  refine Ev.succ ?_
  simp only [spec_EndsOf.l1, nat_lt, Nat.lt_irrefl, ↓reduceIte, up_ hi, show t.length < 17592186044416 by omega]
  cases b
  ·simp only [Bool.false_eq_true, ↓reduceIte] at h2 ⊢
   rw [show insS n [] = [n] from rfl] at h2
   rw [h2]
   exact hn
  ·simp only [↓reduceIte, List.append_nil] at h2 ⊢
   rw [h2]
   exact hn
theorem spec_Ends (list : List Cr) (hl : list.length ≤ 1048576) : Ev (fun k => spec_EndsOf.f k list) (endsD list) := by
 unfold spec_EndsOf.f endsD
 have key := Ev.up list.length (fun i (s : List Int) k => spec_EndsOf.l0 k list s i) (fun i s => (list.drop i).foldl endC s) (fun i s => s.length ≤ i) ?_ ?_ 0 [] (Nat.zero_le _) (by simp)
 ·exact key
 ·intro i s hi hs ih
  have hup := up_ (show i < 4611686018427387904 by omega)
  rw [List.drop_eq_getElem_cons hi, List.foldl_cons]
  have hn := ih (endC s list[i]) (by have := endC_len s list[i]; omega)
  obtain ⟨c, hc⟩ : ∃ c, list[i] = c := ⟨_, rfl⟩
  rw [hc] at hn ⊢
  have skip : ∀ v, endC s c = s → Ev (fun k => spec_EndsOf.j1 k list s i v true) ((list.drop (i + 1)).foldl endC (endC s c)) := by
   intro v e
   rw [e] at hn ⊢
   refine Ev.succ ?_
   simp only [spec_EndsOf.j1, ↓reduceIte, hup]
   exact hn
  refine Ev.succ ?_
  simp only [spec_EndsOf.l0, nat_lt, nat_0, hi, ↓reduceIte, rd_T48, getD_ _ hi, getDn_ _ hi, hc]
  refine Ev.bind (spec_CredOk _ _ _ _ _ _ _ _ _ _) ?_
  change Ev (fun k => if cOk c = true then _ else _) _
  cases ok : cOk c
  ·simp only [Bool.false_eq_true, ↓reduceIte]
   exact skip _ (by unfold endC; rw [if_neg (by rw [ok]; simp)])
  ·simp only [↓reduceIte, cOk_until ok]
   refine Ev.bind (spec_hasI s _ (by omega)) ?_
   by_cases hm : c.f5 + 1 ∈ s
   ·simp only [hm, decide_true]
    exact skip _ (by unfold endC; rw [if_pos ok, if_pos hm])
   ·simp only [hm, decide_false]
    refine Ev.succ ?_
    simp only [spec_EndsOf.j1, Bool.false_eq_true, ↓reduceIte]
    have e : endC s c = insS (c.f5 + 1) s := by unfold endC; rw [if_pos ok, if_neg hm]
    rw [e] at hn ⊢
    exact spec_ins list s i (by omega) _ (by omega) _ hn
 ·intro s _
  refine Ev.succ ?_
  simp only [spec_EndsOf.l0, nat_lt, Nat.lt_irrefl, ↓reduceIte, List.drop_length, List.foldl_nil]
  exact Ev.now _
end Q
end Go.Proofs.Yteehgihclnlaoaa
