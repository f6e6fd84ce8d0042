/-
The reference's ReachRoles and NeededFor as plain functions.
-/
import Derived.Test.YtamhfnedknjjbaaKTQ24
namespace Go.Proofs.Ytamhfnedknjjbaa
open Go.RowKit Go.Proofs.YtamhfnedknjjbaaW.PrintWords Go.Proofs.YtamhfnedknjjbaaW.PrintLast Go.Proofs.YtamhfnedknjjbaaW.PrintMore Go.Proofs.Ytamhfnedknjjbaa.PB
set_option linter.unusedVariables false
set_option linter.unusedSimpArgs false
namespace Q
def zR : Rl := ⟨0, 0⟩
def reachL (list : List Cr) : Nat → List Rl → Nat → List Rl
 | 0, out, _ => out
 | d + 1, out, i => if i < out.length then reachL list d ((leansD list (out.getD i zR)).foldl addR out) (i + 1) else out
def reachD (list : List Cr) (r : Rl) : List Rl := reachL list 25 (leansD list r) 0
theorem leansD_good (list : List Cr) (r : Rl) : GoodR (leansD list r) := leans_good _ _ _ _ GoodR.nil
theorem fold_add : ∀ (more out : List Rl), GoodR out → (∀ x ∈ more, roleOkB x.f0 x.f1 = true) → GoodR (more.foldl addR out) ∧ (∃ t, more.foldl addR out = out ++ t) ∧ ∀ x ∈ more, x ∈ more.foldl addR out := by
 intro more
 induction more with
 | nil => exact fun out h _ => ⟨h, ⟨[], by simp⟩, fun x hx => absurd hx (by simp)⟩
 | cons y ys ih =>
  intro out h hm
  obtain ⟨h1, ⟨t, ht⟩, h2⟩ := ih (addR out y) (h.add (hm y (List.mem_cons_self ..))) (fun x hx => hm x (List.mem_cons_of_mem _ hx))
  obtain ⟨s, hs⟩ : ∃ s, addR out y = out ++ s := by
   rw [addR_eq]
   split
   ·exact ⟨[], by simp⟩
   ·exact ⟨[y], rfl⟩
  rw [List.foldl_cons]
  refine ⟨h1, ⟨s ++ t, by rw [ht, hs, List.append_assoc]⟩, fun x hx => ?_⟩
  rcases List.mem_cons.1 hx with rfl | hx
  ·rw [ht]
   exact List.mem_append_left _ (mem_addR.2 (.inr rfl))
  ·exact h2 x hx
theorem reachL_closed (list : List Cr) : ∀ (d i : Nat) (out : List Rl), 25 - i = d → i ≤ 25 → GoodR out → (∀ x ∈ out.take i, ∀ y, Leans list x y → y ∈ out) →
  GoodR (reachL list d out i) ∧ (∀ x ∈ out, x ∈ reachL list d out i) ∧ ∀ x ∈ reachL list d out i, ∀ y, Leans list x y → y ∈ reachL list d out i := by
 intro d
 induction d with
 | zero =>
  intro i out hd hi hg hc
  have := hg.len
  rw [List.take_of_length_le (by omega)] at hc
  exact ⟨hg, fun _ h => h, hc⟩
 | succ d ih =>
  intro i out hd hi hg hc
  unfold reachL
  by_cases h : i < out.length
  ·rw [if_pos h]
   obtain ⟨h1, ⟨t, ht⟩, h2⟩ := fold_add (leansD list (out.getD i zR)) out hg (leansD_good list _).2
   obtain ⟨g1, g2, g3⟩ := ih (i + 1) _ (by omega) (by omega) h1 (by
    intro x hx y hy
    rw [ht, List.take_append_of_le_length (by omega), List.take_succ_eq_append_getElem h, List.mem_append, List.mem_singleton] at hx
    rcases hx with hx | hx
    ·rw [ht]
     exact List.mem_append_left _ (hc x hx y hy)
    ·refine h2 y ?_
     rw [leansD_mem, getDn_ _ h, ← hx]
     exact hy)
   exact ⟨g1, fun x hx => g2 x (by rw [ht]; exact List.mem_append_left _ hx), g3⟩
  ·rw [if_neg h]
   rw [List.take_of_length_le (by omega)] at hc
   exact ⟨hg, fun _ h => h, hc⟩
theorem reachD_closed (list : List Cr) (r : Rl) : GoodR (reachD list r) ∧ (∀ x, Leans list r x → x ∈ reachD list r) ∧ ∀ x ∈ reachD list r, ∀ y, Leans list x y → y ∈ reachD list r := by
 obtain ⟨h1, h2, h3⟩ := reachL_closed list 25 0 (leansD list r) rfl (by omega) (leansD_good list r) (fun x hx => absurd hx (by simp))
 exact ⟨h1, fun x hx => h2 x (leansD_mem.2 hx), h3⟩
theorem spec_adds (list : List Cr) (out : List Rl) (i : Nat) (hi : i < 4611686018427387904) (R : List Rl) (more : List Rl) (hm : ∀ x ∈ more, roleOkB x.f0 x.f1 = true) (hml : more.length ≤ 24) (hg : GoodR out)
  (hn : Ev (fun k => spec_ReachRoles.l0 k list (more.foldl addR out) ((i + 1 : Nat) : Int)) R) : Ev (fun k => spec_ReachRoles.l1 k list out i more 0) R := by
 refine Ev.up more.length (fun j (s : List Rl) k => spec_ReachRoles.l1 k list s i more j) (fun _ _ => R) (fun j s => GoodR s ∧ (more.drop j).foldl addR s = more.foldl addR out) ?_ ?_ 0 out (Nat.zero_le _) ⟨hg, rfl⟩
 ·intro j s hj hs ih
  refine Ev.succ ?_
  simp only [spec_ReachRoles.l1, nat_lt, nat_0, hj, ↓reduceIte, rd_T26, getD_ _ hj, getDn_ _ hj, up_ (show j < 4611686018427387904 by omega)]
  have := hs.1.len
  refine Ev.bind (spec_add s _ _ (by omega)) ?_
  refine ih _ ⟨hs.1.add (hm _ (List.getElem_mem hj)), ?_⟩
  have e := hs.2
  rw [List.drop_eq_getElem_cons hj, List.foldl_cons] at e
  exact e
 ·intro s hs
  refine Ev.succ ?_
  simp only [spec_ReachRoles.l1, nat_lt, Nat.lt_irrefl, ↓reduceIte, up_ hi]
  have e := hs.2
  rw [List.drop_length, List.foldl_nil] at e
  rw [e]
  exact hn
theorem spec_reachL (list : List Cr) (hl : list.length ≤ 1048576) : ∀ (d i : Nat) (out : List Rl), 25 - i = d → i ≤ 25 → GoodR out → Ev (fun k => spec_ReachRoles.l0 k list out i) (reachL list d out i) := by
 intro d
 induction d with
 | zero =>
  intro i out hd hi hg
  have := hg.len
  refine Ev.succ ?_
  simp only [spec_ReachRoles.l0, nat_lt, show ¬ i < out.length by omega, ↓reduceIte]
  exact Ev.now _
 | succ d ih =>
  intro i out hd hi hg
  unfold reachL
  refine Ev.succ ?_
  by_cases h : i < out.length
  ·obtain ⟨h1, _, _⟩ := fold_add (leansD list (out.getD i zR)) out hg (leansD_good list _).2
   have hn := ih (i + 1) _ (by omega) (by omega) h1
   rw [if_pos h]
   rw [getDn_ _ h] at hn h1 ⊢
   simp only [spec_ReachRoles.l0, nat_lt, nat_0, h, ↓reduceIte, rd_T26, getD_ _ h, getDn_ _ h]
   refine Ev.bind (spec_Leans list hl _ _) ?_
   exact spec_adds list out i (by omega) _ _ (leansD_good list _).2 (leansD_good list _).len hg hn
  ·simp only [spec_ReachRoles.l0, nat_lt, h, ↓reduceIte]
   exact Ev.now _
theorem spec_Reach (list : List Cr) (hl : list.length ≤ 1048576) (a b : Int) : Ev (fun k => spec_ReachRoles.f k list a b) (reachD list ⟨a, b⟩) := by
 unfold spec_ReachRoles.f
 refine Ev.bind (spec_Leans list hl a b) ?_
 exact spec_reachL list hl 25 0 _ rfl (by omega) (leansD_good list _)
def needP (list : List Cr) (r : Rl) (c : Cr) : Bool := cOk c && (decide (c.f1 = r) || decide (c.f1 ∈ reachD list r))
def neededD (list : List Cr) (r : Rl) : List Cr := list.filter (needP list r)
theorem any_isRole (l : List Rl) (a b : Int) : l.any (isRole a b) = decide ((⟨a, b⟩ : Rl) ∈ l) := by
 rw [Bool.eq_iff_iff, List.any_eq_true, decide_eq_true_eq]
 constructor
 ·rintro ⟨x, hx, h⟩
  rw [isRole_iff] at h
  subst h
  exact hx
 ·exact fun h => ⟨_, h, (isRole_iff _ _ _).2 rfl⟩
theorem spec_Needed (list : List Cr) (hl : list.length ≤ 1048576) (a b : Int) : Ev (fun k => spec_NeededFor.f k list a b) (neededD list ⟨a, b⟩) := by
 unfold spec_NeededFor.f
 refine Ev.bind (spec_Reach list hl a b) ?_
 unfold neededD needP
 have hR := (reachD_closed list ⟨a, b⟩).1.len
 generalize reachD list ⟨a, b⟩ = X at hR
 have key := Ev.up list.length (fun i (s : List Cr) k => spec_NeededFor.l0 k list s X i a b) (fun i s => s ++ (list.drop i).filter (fun c => cOk c && (decide (c.f1 = (⟨a, b⟩ : Rl)) || decide (c.f1 ∈ X)))) (fun i s => s.length ≤ i) ?_ ?_ 0 [] (Nat.zero_le _) (Nat.le_refl _)
 ·exact key
 ·intro i s hi hs ih
  rw [List.drop_eq_getElem_cons hi, List.filter_cons]
  obtain ⟨c, hc⟩ : ∃ c, list[i] = c := ⟨_, rfl⟩
  rw [hc]
  have hup := up_ (show i < 4611686018427387904 by omega)
  have h0 := ih s (by omega)
  have h1 := ih (s ++ [c]) (by simp; omega)
  rw [List.append_assoc, List.singleton_append] at h1
  refine Ev.succ ?_
  simp only [spec_NeededFor.l0, nat_lt, nat_0, hi, ↓reduceIte, rd_T49, getD_ _ hi, getDn_ _ hi, hc, hup, show s.length < 1759218604441 by omega]
  refine Ev.bind (spec_CredOk c.f0 c.f1.f0 c.f1.f1 c.f2 c.f3.f0 c.f3.f1 c.f4.f0 c.f4.f1 c.f5 c.f6) ?_
  have ek : cOk c = credOkB c.f0 c.f1.f0 c.f1.f1 c.f2 c.f3.f0 c.f3.f1 c.f4.f0 c.f4.f1 c.f5 c.f6 := rfl
  rw [← ek]
  cases ok : cOk c
  ·simp only [Bool.false_eq_true, ↓reduceIte, Bool.false_and]
   exact h0
  ·simp only [↓reduceIte, Bool.true_and]
   by_cases e : c.f1 = ⟨a, b⟩
   ·have e0 : c.f1.f0 = a := by rw [e]
    have e1 : c.f1.f1 = b := by rw [e]
    simp only [e0, e1, beq_self_eq_true, Bool.and_self, ↓reduceIte, e, decide_true, Bool.true_or]
    have ec : (⟨c.f0, (⟨a, b⟩ : Rl), c.f2, ⟨c.f3.f0, c.f3.f1⟩, ⟨c.f4.f0, c.f4.f1⟩, c.f5, c.f6⟩ : Cr) = c := by rw [← e]
    rw [ec]
    exact h1
   ·have e2 : (c.f1.f0 == a && c.f1.f1 == b) = false := by
     cases q0 : (c.f1.f0 == a) <;> cases q1 : (c.f1.f1 == b)
     ·rfl
     ·rfl
     ·rfl
     ·exfalso
      rw [beq_iff_eq] at q0 q1
      exact e (by rw [← q0, ← q1])
    simp only [e2, Bool.false_eq_true, ↓reduceIte, e, decide_false, Bool.false_or]
    refine Ev.bind (spec_has X _ _ (by omega)) ?_
    rw [any_isRole]
    by_cases hx : c.f1 ∈ X
    ·have hx' : (⟨c.f1.f0, c.f1.f1⟩ : Rl) ∈ X := hx
     simp only [hx, hx', decide_true, ↓reduceIte]
     exact h1
    ·have hx' : ¬ (⟨c.f1.f0, c.f1.f1⟩ : Rl) ∈ X := hx
     simp only [hx, hx', decide_false, Bool.false_eq_true, ↓reduceIte]
     exact h0
 ·intro s hs
  refine Ev.succ ?_
  simp only [spec_NeededFor.l0, nat_lt, Nat.lt_irrefl, ↓reduceIte, List.drop_length, List.filter_nil, List.append_nil]
  exact Ev.now _
end Q
end Go.Proofs.Ytamhfnedknjjbaa
