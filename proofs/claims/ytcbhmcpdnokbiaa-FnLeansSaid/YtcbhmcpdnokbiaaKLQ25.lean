/-
The reference's ReachRoles and NeededFor as plain functions.
-/
import Derived.Test.YtcbhmcpdnokbiaaKLQ23
namespace Go.Proofs.Ytcbhmcpdnokbiaa
open Go.RowKit Go.Proofs.YtcbhmcpdnokbiaaW.PrintWords Go.Proofs.YtcbhmcpdnokbiaaW.PrintLast Go.Proofs.YtcbhmcpdnokbiaaW.PrintMore Go.Proofs.Ytcbhmcpdnokbiaa.PA
set_option linter.unusedVariables false
set_option linter.unusedSimpArgs false
namespace Q
theorem need_der {list nd : List Cr} {S : Rl → Prop} (hS : ∀ r x, S r → Leans list r x → S x) (hn : ∀ c ∈ list, cOk c = true → S c.f1 → c ∈ nd) {f : Fc} (d : Der list f) : S f.f0 → Der nd f := by
 induction d with
 | mem c hc ok hk => exact fun h => .mem c (hn c hc ok h) ok hk
 | frm c hc ok hk w _ ih => exact fun h => .frm c (hn c hc ok h) ok hk w (ih (hS _ _ h ⟨c, hc, ok, rfl, by omega, .inl rfl⟩))
 | lnk c hc ok hk x w d1 _ ih1 ih2 =>
  exact fun h => .lnk c (hn c hc ok h) ok hk x w (ih1 (hS _ _ h ⟨c, hc, ok, rfl, by omega, .inl rfl⟩)) (ih2 (hS _ _ h ⟨c, hc, ok, rfl, by omega, .inr (.inr ⟨hk, x, mem_factsF.2 d1, rfl⟩)⟩))
 | bth c hc ok hk w _ _ ih1 ih2 =>
  exact fun h => .bth c (hn c hc ok h) ok hk w (ih1 (hS _ _ h ⟨c, hc, ok, rfl, by omega, .inl rfl⟩)) (ih2 (hS _ _ h ⟨c, hc, ok, rfl, by omega, .inr (.inl ⟨hk, rfl⟩)⟩))
end Q
end Go.Proofs.Ytcbhmcpdnokbiaa

namespace Go.Proofs.Ytcbhmcpdnokbiaa
open Go.RowKit Go.Proofs.YtcbhmcpdnokbiaaW.PrintWords Go.Proofs.YtcbhmcpdnokbiaaW.PrintLast Go.Proofs.YtcbhmcpdnokbiaaW.PrintMore Go.Proofs.Ytcbhmcpdnokbiaa.PA
set_option linter.unusedVariables false
set_option linter.unusedSimpArgs false
namespace Q
def zR : Rl := ⟨0, 0⟩
def reachL (list : List Cr) : Nat → List Rl → Nat → List Rl
 | 0, out, _ => out
 | d + 1, out, i => if i < out.length then reachL list d ((leansD list (out.getD i zR)).foldl addR out) (i + 1) else out
def reachD (list : List Cr) (r : Rl) : List Rl := reachL list 25 (leansD list r) 0
theorem leansD_good (list : List Cr) (r : Rl) : GoodR (leansD list r) := leans_good _ _ _ _ GoodR.nil
theorem fold_add : ∀ (more out : List Rl), GoodR out → (∀ x ∈ more, roleOkB x.f0 x.f1 = true) → GoodR (more.foldl addR out) ∧ (∃ t, more.foldl addR out = out ++ t) ∧ ∀ x ∈ more, x ∈ more.foldl addR out := by
 intro more
 induction more with
 | nil => exact fun out h _ => ⟨h, ⟨[], by simp⟩, fun x hx => absurd hx (by simp)⟩
 | cons y ys ih =>
  intro out h hm
  obtain ⟨h1, ⟨t, ht⟩, h2⟩ := ih (addR out y) (h.add (hm y (List.mem_cons_self ..))) (fun x hx => hm x (List.mem_cons_of_mem _ hx))
  obtain ⟨s, hs⟩ : ∃ s, addR out y = out ++ s := by
   rw [addR_eq]
   split
   ·exact ⟨[], by simp⟩
   ·exact ⟨[y], rfl⟩
  rw [List.foldl_cons]
  refine ⟨h1, ⟨s ++ t, by rw [ht, hs, List.append_assoc]⟩, fun x hx => ?_⟩
  rcases List.mem_cons.1 hx with rfl | hx
  ·rw [ht]
   exact List.mem_append_left _ (mem_addR.2 (.inr rfl))
  ·exact h2 x hx
theorem reachL_closed (list : List Cr) : ∀ (d i : Nat) (out : List Rl), 25 - i = d → i ≤ 25 → GoodR out → (∀ x ∈ out.take i, ∀ y, Leans list x y → y ∈ out) →
  GoodR (reachL list d out i) ∧ (∀ x ∈ out, x ∈ reachL list d out i) ∧ ∀ x ∈ reachL list d out i, ∀ y, Leans list x y → y ∈ reachL list d out i := by
 intro d
 induction d with
 | zero =>
  intro i out hd hi hg hc
  have := hg.len
  rw [List.take_of_length_le (by omega)] at hc
  exact ⟨hg, fun _ h => h, hc⟩
 | succ d ih =>
  intro i out hd hi hg hc
  unfold reachL
  by_cases h : i < out.length
  ·rw [if_pos h]
   obtain ⟨h1, ⟨t, ht⟩, h2⟩ := fold_add (leansD list (out.getD i zR)) out hg (leansD_good list _).2
   obtain ⟨g1, g2, g3⟩ := ih (i + 1) _ (by omega) (by omega) h1 (by
    intro x hx y hy
    rw [ht, List.take_append_of_le_length (by omega), List.take_succ_eq_append_getElem h, List.mem_append, List.mem_singleton] at hx
    rcases hx with hx | hx
    ·rw [ht]
     exact List.mem_append_left _ (hc x hx y hy)
    ·refine h2 y ?_
     rw [leansD_mem, getDn_ _ h, ← hx]
     exact hy)
   exact ⟨g1, fun x hx => g2 x (by rw [ht]; exact List.mem_append_left _ hx), g3⟩
  ·rw [if_neg h]
   rw [List.take_of_length_le (by omega)] at hc
   exact ⟨hg, fun _ h => h, hc⟩
theorem reachD_closed (list : List Cr) (r : Rl) : GoodR (reachD list r) ∧ (∀ x, Leans list r x → x ∈ reachD list r) ∧ ∀ x ∈ reachD list r, ∀ y, Leans list x y → y ∈ reachD list r := by
 obtain ⟨h1, h2, h3⟩ := reachL_closed list 25 0 (leansD list r) rfl (by omega) (leansD_good list r) (fun x hx => absurd hx (by simp))
 exact ⟨h1, fun x hx => h2 x (leansD_mem.2 hx), h3⟩
def needP (list : List Cr) (r : Rl) (c : Cr) : Bool := cOk c && (decide (c.f1 = r) || decide (c.f1 ∈ reachD list r))
def neededD (list : List Cr) (r : Rl) : List Cr := list.filter (needP list r)
theorem any_isRole (l : List Rl) (a b : Int) : l.any (isRole a b) = decide ((⟨a, b⟩ : Rl) ∈ l) := by
 rw [Bool.eq_iff_iff, List.any_eq_true, decide_eq_true_eq]
 constructor
 ·rintro ⟨x, hx, h⟩
  rw [isRole_iff] at h
  subst h
  exact hx
 ·exact fun h => ⟨_, h, (isRole_iff _ _ _).2 rfl⟩
theorem needed_der {list nd : List Cr} {r : Rl} (h : ∀ c ∈ neededD list r, c ∈ nd) {w : Int} (d : Der list ⟨r, w⟩) : Der nd ⟨r, w⟩ := by
 obtain ⟨_, h2, h3⟩ := reachD_closed list r
 refine need_der (S := fun x => x = r ∨ x ∈ reachD list r) ?_ ?_ d (.inl rfl)
 ·rintro x y (rfl | hx) hl
  ·exact .inr (h2 y hl)
  ·exact .inr (h3 x hx y hl)
 ·intro c hc ok hs
  refine h c ?_
  unfold neededD needP
  rw [List.mem_filter]
  refine ⟨hc, ?_⟩
  rw [Bool.and_eq_true, Bool.or_eq_true, decide_eq_true_eq, decide_eq_true_eq]
  exact ⟨ok, hs⟩
end Q
end Go.Proofs.Ytcbhmcpdnokbiaa
