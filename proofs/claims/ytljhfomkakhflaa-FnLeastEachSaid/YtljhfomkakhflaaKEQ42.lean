/-
Steps for all facts of words, in the order in which they come: each is shown by its word out of those ahead.
-/
import Derived.Test.YtljhfomkakhflaaKEQ55
namespace Go.Proofs.Ytljhfomkakhflaa
open Go.RowKit Go.Proofs.YtljhfomkakhflaaW.PrintWords Go.Proofs.YtljhfomkakhflaaW.PrintLast Go.Proofs.YtljhfomkakhflaaW.PrintMore Go.Proofs.Ytljhfomkakhflaa.PA
set_option linter.unusedVariables false
set_option linter.unusedSimpArgs false
namespace Q
abbrev T14 := Int × Int × Int × Int × Int × Int × Int × Int × Int × Int × Int × Int × Int × List Int
def tell (c : Cr) (f : Fc) (fr : List Int) : T14 := (c.f0, c.f1.f0, c.f1.f1, c.f2, c.f3.f0, c.f3.f1, c.f4.f0, c.f4.f1, c.f5, c.f6, f.f0.f0, f.f0.f1, f.f1, fr)
def Match (F : List Fc) (r : List Int) (i : Int) (d : Dv) : Prop := d.f0 = fc F i ∧ szB r d.f1 1 = rd r i
def Found (list : List Cr) (F : List Fc) (r : List Int) (i : Int) (t : T14) : Prop := ∃ c ∈ list, cOk c = true ∧ ∃ fr, Way F c (fc F i) fr ∧ szB r fr 1 = rd r i ∧ t = tell c (fc F i) fr
theorem fcB (x y : Fc) : ((x.f0.f0 == y.f0.f0 && x.f0.f1 == y.f0.f1) && x.f1 == y.f1) = decide (x = y) := by
 obtain ⟨⟨a, b⟩, c⟩ := x
 obtain ⟨⟨a', b'⟩, c'⟩ := y
 by_cases h : (⟨⟨a, b⟩, c⟩ : Fc) = ⟨⟨a', b'⟩, c'⟩
 ·rw [decide_eq_true h]; cases h; simp
 ·rw [decide_eq_false h, Bool.eq_false_iff]
  intro g
  simp only [Bool.and_eq_true, beq_iff_eq] at g
  exact h (by rw [g.1.1, g.1.2, g.2])
theorem least_l1 {list : List Cr} {F : List Fc} {r : List Int} (h : Szs list F r) (hF : F.length ≤ 144) {i : Int} (hi : At F i) (c : Cr) (hc : c ∈ list) (ok : cOk c = true) (x14 x15 : Int) (D : List Dv) (hD : D = deriveL F c) (hDl : D.length ≤ 2097152)
  (next : (∀ d ∈ D, ¬ Match F r i d) → ∃ t, Ev (fun k => impl_leastStep.l0 k F r i list x14 (wrap64 (x15 + 1))) t ∧ Found list F r i t) :
  ∀ (n j : Nat), D.length - j = n → j ≤ D.length → (∀ d ∈ D.take j, ¬ Match F r i d) →
  ∃ t, Ev (fun k => impl_leastStep.l1 k F r i list x14 x15 D D.length j c.f0 c.f1.f0 c.f1.f1 c.f2 c.f3.f0 c.f3.f1 c.f4.f0 c.f4.f1 c.f5 c.f6) t ∧ Found list F r i t := by
 intro n
 induction n with
 | zero =>
  intro j hn hj hno
  obtain rfl : j = D.length := by omega
  refine Ev.exsucc ?_
  simp only [impl_leastStep.l1, Int.lt_irrefl, ↓reduceIte]
  exact next (by rwa [List.take_length] at hno)
 | succ n ih =>
  intro j hn hj hno
  have hjl : j < D.length := by omega
  obtain ⟨d, hd⟩ : ∃ d, D[j] = d := ⟨_, rfl⟩
  have hdm : d ∈ D := hd ▸ List.getElem_mem hjl
  have hw : Way F c d.f0 d.f1 := by unfold Way; rw [← hD]; exact hdm
  have htk : D.take (j + 1) = D.take j ++ [d] := by rw [List.take_succ_eq_append_getElem hjl, hd]
  have hup := up_ (show j < 4611686018427387904 by omega)
  obtain ⟨hfl, hfa⟩ := way_at h.right h.nod ok hw
  have hg := h.good
  have hrg : ∀ x ∈ d.f1, 0 ≤ rd r x ∧ rd r x ≤ 1000001 := fun x hx => by have := good_range hg (hfa x hx).1 (hfa x hx).2; omega
  have on : ¬ Match F r i d → ∃ t, Ev (fun k => impl_leastStep.l1 k F r i list x14 x15 D D.length ((j + 1 : Nat) : Int) c.f0 c.f1.f0 c.f1.f1 c.f2 c.f3.f0 c.f3.f1 c.f4.f0 c.f4.f1 c.f5 c.f6) t ∧ Found list F r i t := fun hm => by
   refine ih (j + 1) (by omega) (by omega) fun x hx => ?_
   rw [htk, List.mem_append, List.mem_singleton] at hx
   rcases hx with hx | rfl
   ·exact hno x hx
   ·exact hm
  refine Ev.exsucc ?_
  simp only [impl_leastStep.l1, nat_lt, nat_0, hjl, ↓reduceIte, rd_T81, getD_ _ hjl, getDn_ _ hjl, hd, hup, hi.1, hi.2, fcB]
  have hir : i < (r.length : Int) := by rw [hg.1]; exact hi.2
  change ∃ t, Ev (fun k => if decide (d.f0 = fc F i) = true then _ else _) t ∧ _
  by_cases e : d.f0 = fc F i
  ·simp only [decide_eq_true e, ↓reduceIte, hir]
   refine Ev.exbind (impl_size r _ _ _ d.f1 hfl (fun x hx => by rw [hg.1]; exact hfa x hx) hrg) ?_
   by_cases e2 : szB r d.f1 1 = rd r i
   ·simp only [e2, ↓reduceIte]
    exact ⟨_, Ev.now _, c, hc, ok, d.f1, e ▸ hw, e2, by rw [← e]; rfl⟩
   ·simp only [e2, ↓reduceIte]
    exact on fun m => e2 m.2
  ·simp only [decide_eq_false e, Bool.false_eq_true, ↓reduceIte]
   exact on fun m => e m.1
theorem least_l0 {list : List Cr} (hl : list.length ≤ 1048576) {F : List Fc} {r : List Int} (h : Szs list F r) (hF : F.length ≤ 144) {i : Int} (hi : At F i) :
  ∀ (n j : Nat), list.length - j = n → j ≤ list.length → (∃ c ∈ list.drop j, cOk c = true ∧ ∃ d ∈ deriveL F c, Match F r i d) →
  ∃ t, Ev (fun k => impl_leastStep.l0 k F r i list list.length j) t ∧ Found list F r i t := by
 intro n
 induction n with
 | zero =>
  intro j hn hj he
  obtain rfl : j = list.length := by omega
  obtain ⟨c, hc, _⟩ := he
  simp at hc
 | succ n ih =>
  intro j hn hj he
  have hjl : j < list.length := by omega
  obtain ⟨c, hc⟩ : ∃ c, list[j] = c := ⟨_, rfl⟩
  have hcl : c ∈ list := hc ▸ List.getElem_mem hjl
  have hdr : list.drop j = c :: list.drop (j + 1) := by rw [List.drop_eq_getElem_cons hjl, hc]
  have hup := up_ (show j < 4611686018427387904 by omega)
  have on : ¬ (cOk c = true ∧ ∃ d ∈ deriveL F c, Match F r i d) → ∃ t, Ev (fun k => impl_leastStep.l0 k F r i list list.length ((j + 1 : Nat) : Int)) t ∧ Found list F r i t := fun hm => by
   refine ih (j + 1) (by omega) (by omega) ?_
   obtain ⟨c', hc', h2⟩ := he
   rw [hdr] at hc'
   rcases List.mem_cons.1 hc' with rfl | hc'
   ·exact absurd h2 hm
   ·exact ⟨c', hc', h2⟩
  refine Ev.exsucc ?_
  simp only [impl_leastStep.l0, nat_lt, nat_0, hjl, ↓reduceIte, rd_T35, getD_ _ hjl, getDn_ _ hjl, hc, hup]
  refine Ev.exbind (impl_CredOk _ _ _ _ _ _ _ _ _ _) ?_
  change ∃ t, Ev (fun k => if cOk c = true then _ else _) t ∧ _
  cases ok : cOk c
  ·simp only [Bool.false_eq_true, ↓reduceIte]
   exact on fun m => by rw [ok] at m; simp at m
  ·simp only [↓reduceIte]
   refine Ev.exbind (impl_der F (by omega) c) ?_
   have hDl : (deriveL F c).length ≤ 2097152 := Nat.le_trans (deriveL_len F c (by omega)) (by omega)
   refine least_l1 h hF hi c hcl ok list.length j (deriveL F c) rfl hDl (fun hno => ?_) _ 0 rfl (Nat.zero_le _) (fun d hd => by simp at hd)
   rw [hup]
   exact on fun m => by obtain ⟨_, d, hd, hm⟩ := m; exact hno d hd hm
theorem impl_least {list : List Cr} (hl : list.length ≤ 1048576) {F : List Fc} {r : List Int} (h : Szs list F r) (hF : F.length ≤ 144) {i : Int} (hi : At F i) :
  ∃ c ∈ list, cOk c = true ∧ ∃ fr, Way F c (fc F i) fr ∧ (∀ a ∈ fr, At F a) ∧ fr.length ≤ 2 ∧ rd r i = 1 + (fr.map (rd r)).sum ∧ Ev (fun k => impl_leastStep.f k list F r i) (tell c (fc F i) fr) := by
 obtain ⟨c0, hc0, ok0, fr0, hw0, _, e0, _⟩ := h.plain hi
 obtain ⟨t, ht, c, hc, ok, fr, hw, e, rfl⟩ := least_l0 hl h hF hi list.length 0 rfl (Nat.zero_le _) ⟨c0, by simpa using hc0, ok0, ⟨fc F i, fr0⟩, hw0, rfl, e0⟩
 have hs := h.small hi
 obtain ⟨w1, w2⟩ := way_at h.right h.nod ok hw
 refine ⟨c, hc, ok, fr, hw, w2, w1, ?_, by unfold impl_leastStep.f; exact ht⟩
 rcases szB_two (s := r) fr with ⟨g, _⟩ | ⟨_, g⟩
 ·omega
 ·rw [g] at e
  rw [← e] at hs ⊢
  exact cap_eq hs
end Q
end Go.Proofs.Ytljhfomkakhflaa

namespace Go.Proofs.Ytljhfomkakhflaa
open Go.RowKit Go.Proofs.YtljhfomkakhflaaW.PrintWords Go.Proofs.YtljhfomkakhflaaW.PrintLast Go.Proofs.YtljhfomkakhflaaW.PrintMore Go.Proofs.Ytljhfomkakhflaa.PA
set_option linter.unusedVariables false
set_option linter.unusedSimpArgs false
namespace Q
abbrev St := S58
def rdS (l : List St) (i : Int) : St := rd_T58 l i
theorem rdS_ {l : List St} {i : Nat} (h : i < l.length) : rdS l (i : Int) = l[i] := by simp only [rdS, rd_T58, getD_ _ h]
theorem rdS_pre {l : List St} (t : List St) {j : Int} (h0 : 0 ≤ j) (h : j < (l.length : Int)) : rdS (l ++ t) j = rdS l j := by
 obtain ⟨n, rfl⟩ := Int.eq_ofNat_of_zero_le h0
 have hn : n < l.length := by omega
 rw [rdS_ hn, rdS_ (show n < (l ++ t).length by rw [List.length_append]; omega), List.getElem_append_left hn]
def Just (c : Cr) (f : Fc) (ps : List Fc) : Prop :=
 f.f0 = c.f1 ∧ ((c.f0 = 1 ∧ f.f1 = c.f2 ∧ ps = []) ∨ (c.f0 = 2 ∧ ps = [⟨c.f3, f.f1⟩]) ∨ (c.f0 = 3 ∧ ∃ x, ps = [⟨c.f3, x⟩, ⟨⟨x, c.f4.f1⟩, f.f1⟩]) ∨ (c.f0 = 4 ∧ ps = [⟨c.f3, f.f1⟩, ⟨c.f4, f.f1⟩]))
def GoodSt (list : List Cr) (all : List St) (i : Nat) (s : St) : Prop := s.f0 ∈ list ∧ cOk s.f0 = true ∧ (∀ j ∈ s.f2, 0 ≤ j ∧ j < (i : Int)) ∧ Just s.f0 s.f1 (s.f2.map fun j => (rdS all j).f1)
def GoodAll (list : List Cr) (all : List St) : Prop := ∀ (i : Nat) (h : i < all.length), GoodSt list all i all[i]
theorem GoodSt.more {list : List Cr} {all : List St} {i : Nat} {s : St} (h : GoodSt list all i s) (hi : i ≤ all.length) (t : List St) : GoodSt list (all ++ t) i s := by
 obtain ⟨h1, h2, h3, h4⟩ := h
 refine ⟨h1, h2, h3, ?_⟩
 have : (s.f2.map fun j => (rdS (all ++ t) j).f1) = s.f2.map fun j => (rdS all j).f1 := by
  apply List.map_congr_left
  intro j hj
  have := h3 j hj
  rw [rdS_pre t (by omega) (by omega)]
 rw [this]
 exact h4
theorem GoodAll.snoc {list : List Cr} {all : List St} (h : GoodAll list all) {s : St} (hs : GoodSt list all all.length s) : GoodAll list (all ++ [s]) := by
 intro i hi
 rw [List.length_append, List.length_singleton] at hi
 by_cases hlt : i < all.length
 ·rw [List.getElem_append_left hlt]
  exact (h i hlt).more (by omega) _
 ·have : i = all.length := by omega
  subst this
  rw [List.getElem_append_right (Nat.le_refl _)]
  simpa using hs.more (Nat.le_refl _) [s]
theorem GoodAll.nil (list : List Cr) : GoodAll list [] := fun i h => absurd h (by simp)
end Q
end Go.Proofs.Ytljhfomkakhflaa
