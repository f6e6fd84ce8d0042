/-
Steps for all facts of words, in the order in which they come: each is shown by its word out of those ahead.
-/
import Derived.Test.YtcbhmcpdnokbiaaKLPAx15
import Derived.Test.YtcbhmcpdnokbiaaKLQ37d
namespace Go.Proofs.Ytcbhmcpdnokbiaa
open Go.RowKit Go.Proofs.YtcbhmcpdnokbiaaW.PrintWords Go.Proofs.YtcbhmcpdnokbiaaW.PrintLast Go.Proofs.YtcbhmcpdnokbiaaW.PrintMore Go.Proofs.Ytcbhmcpdnokbiaa.PA
set_option linter.unusedVariables false
set_option linter.unusedSimpArgs false
namespace Q
abbrev St := S63
def rdS (l : List St) (i : Int) : St := rd_T63 l i
theorem rdS_ {l : List St} {i : Nat} (h : i < l.length) : rdS l (i : Int) = l[i] := by simp only [rdS, rd_T63, getD_ _ h]
theorem rdS_pre {l : List St} (t : List St) {j : Int} (h0 : 0 ≤ j) (h : j < (l.length : Int)) : rdS (l ++ t) j = rdS l j := by
 obtain ⟨n, rfl⟩ := Int.eq_ofNat_of_zero_le h0
 have hn : n < l.length := by omega
 rw [rdS_ hn, rdS_ (show n < (l ++ t).length by rw [List.length_append]; omega), List.getElem_append_left hn]
def atG (f : Fc) : List St → Int → Int
 | [], _ => -1
 | x :: xs, i => if x.f1 = f then i else atG f xs (i + 1)
def atS (l : List St) (f : Fc) : Int := atG f l 0
theorem l7_at (l : List St) (a b c : Int) (h : l.length ≤ 1048576) : Ev (fun k => spec_l07At.f k l a b c) (atS l ⟨⟨a, b⟩, c⟩) := by
 unfold spec_l07At.f atS
 have key := Ev.up0 l.length (fun i k => spec_l07At.l0 k l i a b c) (fun i => atG ⟨⟨a, b⟩, c⟩ (l.drop i) i) ?_ ?_ 0 (Nat.zero_le _)
 ·exact key
 ·intro i hi hn
  refine Ev.succ ?_
  have hiff := isFc_iff a b c l[i].f1
  unfold isFc at hiff
  simp only [spec_l07At.l0, nat_lt, nat_0, hi, ↓reduceIte, rd_T63, getD_ _ hi, getDn_ _ hi, up_ (show i < 4611686018427387904 by omega)]
  rw [List.drop_eq_getElem_cons hi, atG]
  by_cases hf : l[i].f1 = ⟨⟨a, b⟩, c⟩
  ·rw [if_pos hf]
   simp only [hiff.2 hf, ↓reduceIte]
   exact Ev.now _
  ·rw [if_neg hf]
   simp only [mt hiff.1 hf, ↓reduceIte]
   exact hn
 ·refine Ev.succ ?_
  simp only [spec_l07At.l0, nat_lt, Nat.lt_irrefl, ↓reduceIte, List.drop_length, atG]
  exact Ev.now _
theorem atG_spec (f : Fc) : ∀ (l : List St) (i : Nat), (atG f l i = -1 ∧ ∀ x ∈ l, x.f1 ≠ f) ∨ ∃ j : Nat, ∃ h : j < l.length, atG f l i = ((i + j : Nat) : Int) ∧ l[j].f1 = f := by
 intro l
 induction l with
 | nil => intro i; exact .inl ⟨rfl, by simp⟩
 | cons x xs ih =>
  intro i
  unfold atG
  by_cases hx : x.f1 = f
  ·rw [if_pos hx]
   exact .inr ⟨0, by simp, by simp, by simpa using hx⟩
  ·rw [if_neg hx]
   rcases ih (i + 1) with ⟨h1, h2⟩ | ⟨j, hj, h1, h2⟩
   ·refine .inl ⟨by exact_mod_cast h1, ?_⟩
    intro y hy
    rcases List.mem_cons.1 hy with rfl | hy
    ·exact hx
    ·exact h2 y hy
   ·refine .inr ⟨j + 1, by simpa using hj, ?_, by simpa using h2⟩
    have : ((i + (j + 1) : Nat) : Int) = ((i + 1 + j : Nat) : Int) := by omega
    rw [this]
    exact_mod_cast h1
theorem at_ge {l : List St} {f : Fc} (h : 0 ≤ atS l f) : ∃ j : Nat, j < l.length ∧ atS l f = (j : Int) ∧ (rdS l j).f1 = f := by
 rcases atG_spec f l 0 with ⟨h1, _⟩ | ⟨j, hj, h1, h2⟩
 ·have h3 : atS l f = -1 := h1
  omega
 ·refine ⟨j, hj, ?_, by rw [rdS_ hj]; exact h2⟩
  have h3 : atS l f = ((0 + j : Nat) : Int) := h1
  rw [h3, Nat.zero_add]
theorem at_mem {l : List St} {f : Fc} (h : f ∈ l.map (·.f1)) : 0 ≤ atS l f := by
 rcases atG_spec f l 0 with ⟨_, h2⟩ | ⟨j, hj, h1, h2⟩
 ·obtain ⟨x, hx, rfl⟩ := List.mem_map.1 h
  exact absurd rfl (h2 x hx)
 ·have h3 : atS l f = ((0 + j : Nat) : Int) := h1
  omega
def linkG (l : List St) (c : Cr) (w : Int) : List St → Int → List Int
 | [], _ => []
 | x :: xs, i => if x.f1.f0 = c.f3 then (if atS l ⟨⟨x.f1.f1, c.f4.f1⟩, w⟩ ≥ 0 then [i, atS l ⟨⟨x.f1.f1, c.f4.f1⟩, w⟩] else linkG l c w xs (i + 1)) else linkG l c w xs (i + 1)
def fromS (l : List St) (c : Cr) (w : Int) : List Int :=
 if c.f0 = 2 then [atS l ⟨c.f3, w⟩] else if c.f0 = 4 then [atS l ⟨c.f3, w⟩, atS l ⟨c.f4, w⟩] else if c.f0 = 3 then linkG l c w l 0 else []
theorem l7_from (l : List St) (c : Cr) (w : Int) (h : l.length ≤ 1048576) : Ev (fun k => spec_l07From.f k l c.f0 c.f1.f0 c.f1.f1 c.f2 c.f3.f0 c.f3.f1 c.f4.f0 c.f4.f1 c.f5 c.f6 w) (fromS l c w) := by
 obtain ⟨p, ⟨o1, o2⟩, q, ⟨a, b⟩, ⟨d, e⟩, u, n⟩ := c
 unfold spec_l07From.f fromS
 simp only
 by_cases h2 : p = 2
 ·simp only [h2, ↓reduceIte]
  refine Ev.bind (l7_at l _ _ _ h) ?_
  exact Ev.now _
 by_cases h4 : p = 4
 ·simp only [h4, ↓reduceIte, show ¬ (4 : Int) = 2 by omega]
  refine Ev.bind (l7_at l _ _ _ h) ?_
  refine Ev.bind (l7_at l _ _ _ h) ?_
  exact Ev.now _
 by_cases h3 : p = 3
 ·simp only [h3, ↓reduceIte, show ¬ (3 : Int) = 2 by omega, show ¬ (3 : Int) = 4 by omega]
  have key := Ev.up0 l.length (fun i k => spec_l07From.l0 k l w i 3 o1 o2 q a b d e u n) (fun i => linkG l ⟨3, ⟨o1, o2⟩, q, ⟨a, b⟩, ⟨d, e⟩, u, n⟩ w (l.drop i) i) ?_ ?_ 0 (Nat.zero_le _)
  ·exact key
  ·intro i hi hn
   refine Ev.succ ?_
   simp only [spec_l07From.l0, nat_lt, nat_0, hi, ↓reduceIte, rd_T63, getD_ _ hi, getDn_ _ hi, up_ (show i < 4611686018427387904 by omega), roleBn]
   rw [List.drop_eq_getElem_cons hi, linkG]
   by_cases hf : l[i].f1.f0 = ⟨a, b⟩
   ·rw [if_pos hf]
    simp only [hf, decide_true, Bool.not_true, Bool.false_eq_true, ↓reduceIte]
    refine Ev.bind (l7_at l _ _ _ h) ?_
    by_cases hg : atS l ⟨⟨l[i].f1.f1, e⟩, w⟩ ≥ 0
    ·rw [if_pos hg]
     simp only [hg, ↓reduceIte]
     exact Ev.now _
    ·rw [if_neg hg]
     simp only [hg, ↓reduceIte]
     exact hn
   ·rw [if_neg hf]
    simp only [hf, decide_false, Bool.not_false, ↓reduceIte]
    exact hn
  ·refine Ev.succ ?_
   simp only [spec_l07From.l0, nat_lt, Nat.lt_irrefl, ↓reduceIte, List.drop_length, linkG]
   exact Ev.now _
 ·simp only [h2, h3, h4, ↓reduceIte]
  exact Ev.now _
def Just (c : Cr) (f : Fc) (ps : List Fc) : Prop :=
 f.f0 = c.f1 ∧ ((c.f0 = 1 ∧ f.f1 = c.f2 ∧ ps = []) ∨ (c.f0 = 2 ∧ ps = [⟨c.f3, f.f1⟩]) ∨ (c.f0 = 3 ∧ ∃ x, ps = [⟨c.f3, x⟩, ⟨⟨x, c.f4.f1⟩, f.f1⟩]) ∨ (c.f0 = 4 ∧ ps = [⟨c.f3, f.f1⟩, ⟨c.f4, f.f1⟩]))
theorem Just.der {list : List Cr} {c : Cr} {f : Fc} {ps : List Fc} (h : Just c f ps) (hc : c ∈ list) (ok : cOk c = true) (hp : ∀ p ∈ ps, Der list p) : Der list f := by
 obtain ⟨h0, h⟩ := h
 rw [fc_eta h0]
 rcases h with ⟨k, e, rfl⟩ | ⟨k, rfl⟩ | ⟨k, x, rfl⟩ | ⟨k, rfl⟩
 ·rw [e]; exact .mem c hc ok k
 ·exact .frm c hc ok k _ (hp _ (by simp))
 ·exact .lnk c hc ok k x _ (hp _ (by simp)) (hp _ (by simp))
 ·exact .bth c hc ok k _ (hp _ (by simp)) (hp _ (by simp))
theorem link_spec (l : List St) (c : Cr) (w : Int) : ∀ (d i : Nat), l.length - i = d → (∃ j : Nat, ∃ h : j < l.length, i ≤ j ∧ l[j].f1.f0 = c.f3 ∧ 0 ≤ atS l ⟨⟨l[j].f1.f1, c.f4.f1⟩, w⟩) →
  ∃ j : Nat, ∃ h : j < l.length, l[j].f1.f0 = c.f3 ∧ 0 ≤ atS l ⟨⟨l[j].f1.f1, c.f4.f1⟩, w⟩ ∧ linkG l c w (l.drop i) i = [(j : Int), atS l ⟨⟨l[j].f1.f1, c.f4.f1⟩, w⟩] := by
 intro d
 induction d with
 | zero => rintro i hd ⟨j, hj, hij, _⟩; omega
 | succ d ih =>
  rintro i hd ⟨j, hj, hij, e1, e2⟩
  have hi : i < l.length := by omega
  rw [List.drop_eq_getElem_cons hi, linkG]
  by_cases hf : l[i].f1.f0 = c.f3
  ·rw [if_pos hf]
   by_cases hg : atS l ⟨⟨l[i].f1.f1, c.f4.f1⟩, w⟩ ≥ 0
   ·rw [if_pos hg]
    exact ⟨i, hi, hf, hg, rfl⟩
   ·rw [if_neg hg]
    have hne : i ≠ j := by rintro rfl; exact hg e2
    exact ih (i + 1) (by omega) ⟨j, hj, by omega, e1, e2⟩
  ·rw [if_neg hf]
   have hne : i ≠ j := by rintro rfl; exact hf e1
   exact ih (i + 1) (by omega) ⟨j, hj, by omega, e1, e2⟩
theorem from_just {l : List St} {c : Cr} {f : Fc} (hf : f ∈ telF (l.map (·.f1)) c) (ok : cOk c = true) : Just c f ((fromS l c f.f1).map fun j => (rdS l j).f1) ∧ ∀ j ∈ fromS l c f.f1, 0 ≤ j ∧ j < (l.length : Int) := by
 unfold telF at hf
 rcases cOk_kind ok with hk | hk | hk | hk
 ·simp only [hk, ↓reduceIte, List.mem_singleton] at hf
  subst hf
  simp only [fromS, hk, show ¬ (1 : Int) = 2 by omega, show ¬ (1 : Int) = 4 by omega, show ¬ (1 : Int) = 3 by omega, ↓reduceIte]
  exact ⟨⟨rfl, .inl ⟨hk, rfl, rfl⟩⟩, by simp⟩
 ·simp only [hk, show ¬ ((2 : Int) = 1) by omega, ↓reduceIte, List.mem_map, List.mem_filter, decide_eq_true_eq] at hf
  obtain ⟨x, ⟨⟨s, hs, rfl⟩, e⟩, rfl⟩ := hf
  have hm : (⟨c.f3, s.f1.f1⟩ : Fc) ∈ l.map (·.f1) := List.mem_map.2 ⟨s, hs, fc_eta e⟩
  obtain ⟨j, hj, e1, e2⟩ := at_ge (at_mem hm)
  simp only [fromS, hk, ↓reduceIte, List.map_cons, List.map_nil, List.mem_singleton, forall_eq]
  rw [e1, e2]
  exact ⟨⟨rfl, .inr (.inl ⟨hk, rfl⟩)⟩, by omega, by omega⟩
 ·simp only [hk, show ¬ ((3 : Int) = 1) by omega, show ¬ ((3 : Int) = 2) by omega, ↓reduceIte, List.mem_flatMap, List.mem_map, List.mem_filter, decide_eq_true_eq] at hf
  obtain ⟨x, ⟨⟨s, hs, rfl⟩, e⟩, z, ⟨⟨s2, hs2, rfl⟩, e2⟩, rfl⟩ := hf
  obtain ⟨i, hi, rfl⟩ := List.mem_iff_getElem.1 hs
  have hm : (⟨⟨l[i].f1.f1, c.f4.f1⟩, s2.f1.f1⟩ : Fc) ∈ l.map (·.f1) := List.mem_map.2 ⟨s2, hs2, fc_eta e2⟩
  obtain ⟨j, hj, e3, e4, e5⟩ := link_spec l c s2.f1.f1 l.length 0 rfl ⟨i, hi, Nat.zero_le _, e, at_mem hm⟩
  obtain ⟨q, hq, e6, e7⟩ := at_ge e4
  simp only [fromS, hk, show ¬ (3 : Int) = 2 by omega, show ¬ (3 : Int) = 4 by omega, ↓reduceIte]
  have e8 : linkG l c s2.f1.f1 l 0 = [(j : Int), (q : Int)] := by
   have := e5
   rw [List.drop_zero, e6] at this
   exact this
  rw [e8]
  refine ⟨⟨rfl, .inr (.inr (.inl ⟨hk, l[j].f1.f1, ?_⟩))⟩, ?_⟩
  ·simp only [List.map_cons, List.map_nil]
   rw [e7, rdS_ hj, ← fc_eta e3]
  ·intro y hy
   rcases List.mem_cons.1 hy with rfl | hy
   ·omega
   ·rw [List.mem_singleton] at hy
    omega
 ·simp only [hk, show ¬ ((4 : Int) = 1) by omega, show ¬ ((4 : Int) = 2) by omega, show ¬ ((4 : Int) = 3) by omega, ↓reduceIte, List.mem_map, List.mem_filter, decide_eq_true_eq] at hf
  obtain ⟨x, ⟨⟨⟨s, hs, rfl⟩, e⟩, h2⟩, rfl⟩ := hf
  have hm : (⟨c.f3, s.f1.f1⟩ : Fc) ∈ l.map (·.f1) := List.mem_map.2 ⟨s, hs, fc_eta e⟩
  have hm2 : (⟨c.f4, s.f1.f1⟩ : Fc) ∈ l.map (·.f1) := List.mem_map.2 h2
  obtain ⟨j, hj, e1, e2⟩ := at_ge (at_mem hm)
  obtain ⟨q, hq, e3, e4⟩ := at_ge (at_mem hm2)
  simp only [fromS, hk, show ¬ (4 : Int) = 2 by omega, ↓reduceIte, List.map_cons, List.map_nil]
  rw [e1, e2, e3, e4]
  refine ⟨⟨rfl, .inr (.inr (.inr ⟨hk, rfl⟩))⟩, ?_⟩
  intro y hy
  rcases List.mem_cons.1 hy with rfl | hy
  ·omega
  ·rw [List.mem_singleton] at hy
   omega
def GoodSt (list : List Cr) (all : List St) (i : Nat) (s : St) : Prop := s.f0 ∈ list ∧ cOk s.f0 = true ∧ (∀ j ∈ s.f2, 0 ≤ j ∧ j < (i : Int)) ∧ Just s.f0 s.f1 (s.f2.map fun j => (rdS all j).f1)
def GoodAll (list : List Cr) (all : List St) : Prop := ∀ (i : Nat) (h : i < all.length), GoodSt list all i all[i]
theorem GoodSt.more {list : List Cr} {all : List St} {i : Nat} {s : St} (h : GoodSt list all i s) (hi : i ≤ all.length) (t : List St) : GoodSt list (all ++ t) i s := by
 obtain ⟨h1, h2, h3, h4⟩ := h
 refine ⟨h1, h2, h3, ?_⟩
 have : (s.f2.map fun j => (rdS (all ++ t) j).f1) = s.f2.map fun j => (rdS all j).f1 := by
  apply List.map_congr_left
  intro j hj
  have := h3 j hj
  rw [rdS_pre t (by omega) (by omega)]
 rw [this]
 exact h4
theorem GoodAll.snoc {list : List Cr} {all : List St} (h : GoodAll list all) {s : St} (hs : GoodSt list all all.length s) : GoodAll list (all ++ [s]) := by
 intro i hi
 rw [List.length_append, List.length_singleton] at hi
 by_cases hlt : i < all.length
 ·rw [List.getElem_append_left hlt]
  exact (h i hlt).more (by omega) _
 ·have : i = all.length := by omega
  subst this
  rw [List.getElem_append_right (Nat.le_refl _)]
  simpa using hs.more (Nat.le_refl _) [s]
theorem GoodAll.nil (list : List Cr) : GoodAll list [] := fun i h => absurd h (by simp)
theorem step_new {l : List Fc} {c : Cr} {t : List Fc} (he : stepF l c = l ++ t) (hn : (stepF l c).Nodup) {f : Fc} (hf : f ∈ t) : f ∈ telF l c ∧ cOk c = true := by
 rw [he] at hn
 have hnot : f ∉ l := fun h => (List.nodup_append.1 hn).2.2 f h f hf rfl
 have hm : f ∈ stepF l c := by rw [he]; exact List.mem_append_right _ hf
 unfold stepF at hm
 by_cases ok : cOk c = true
 ·rw [if_pos ok, mem_foldl] at hm
  rcases hm with hm | hm
  ·exact absurd hm hnot
  ·exact ⟨hm, ok⟩
 ·rw [if_neg ok] at hm
  exact absurd hm hnot
end Q
end Go.Proofs.Ytcbhmcpdnokbiaa
