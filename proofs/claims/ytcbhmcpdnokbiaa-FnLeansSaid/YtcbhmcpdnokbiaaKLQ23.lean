/-
What a circle leans on, what it reaches, and the words that are needed for it, by the reference.
-/
import Derived.Test.YtcbhmcpdnokbiaaKLQ16
namespace Go.Proofs.Ytcbhmcpdnokbiaa
open Go.RowKit Go.Proofs.YtcbhmcpdnokbiaaW.PrintWords Go.Proofs.YtcbhmcpdnokbiaaW.PrintLast Go.Proofs.YtcbhmcpdnokbiaaW.PrintMore Go.Proofs.Ytcbhmcpdnokbiaa.PA
set_option linter.unusedVariables false
set_option linter.unusedSimpArgs false
namespace Q
def GoodR (l : List Rl) : Prop := l.Nodup ∧ ∀ r ∈ l, roleOkB r.f0 r.f1 = true
def allR : List Rl := (List.range 6).flatMap fun a => (List.range 4).map fun (b : Nat) => (⟨((a : Nat) : Int), (b : Int)⟩ : Rl)
theorem allR_len : allR.length = 24 := by decide +kernel
theorem allR_mem {x : Rl} (h : roleOkB x.f0 x.f1 = true) : x ∈ allR := by
 obtain ⟨a, b⟩ := x
 unfold roleOkB inB at h
 simp only [Bool.and_eq_true, decide_eq_true_eq] at h
 obtain ⟨⟨h1, h2⟩, h3, h4⟩ := h
 unfold allR
 simp only [List.mem_flatMap, List.mem_map, List.mem_range]
 refine ⟨a.toNat, by omega, b.toNat, by omega, ?_⟩
 rw [Int.toNat_of_nonneg h1, Int.toNat_of_nonneg h3]
theorem GoodR.len {l : List Rl} (h : GoodR l) : l.length ≤ 24 := by
 rw [← allR_len]
 exact nodup_le l allR h.1 (fun x hx => allR_mem (h.2 x hx))
theorem isRole_iff (a b : Int) (x : Rl) : isRole a b x = true ↔ x = ⟨a, b⟩ := by
 obtain ⟨p, q⟩ := x
 unfold isRole
 rw [Bool.and_eq_true, beq_iff_eq, beq_iff_eq]
 constructor
 ·rintro ⟨rfl, rfl⟩; rfl
 ·intro h; injection h with h1 h2; exact ⟨h1.symm, h2.symm⟩
theorem addR_eq (l : List Rl) (r : Rl) : addR l r = if r ∈ l then l else l ++ [r] := by
 unfold addR
 have : l.any (isRole r.f0 r.f1) = decide (r ∈ l) := by
  rw [Bool.eq_iff_iff, List.any_eq_true, decide_eq_true_eq]
  constructor
  ·rintro ⟨x, hx, h⟩
   rw [isRole_iff] at h
   subst h
   exact hx
  ·exact fun h => ⟨_, h, (isRole_iff _ _ _).2 rfl⟩
 rw [this]
 simp only [decide_eq_true_eq]
theorem mem_addR {l : List Rl} {r x : Rl} : x ∈ addR l r ↔ x ∈ l ∨ x = r := by
 rw [addR_eq]
 split
 ·rename_i h
  exact ⟨.inl, fun h' => h'.elim id (fun e => e ▸ h)⟩
 ·simp
theorem GoodR.add {l : List Rl} (h : GoodR l) {r : Rl} (hr : roleOkB r.f0 r.f1 = true) : GoodR (addR l r) := by
 refine ⟨?_, fun x hx => (mem_addR.1 hx).elim (h.2 x) (fun e => e ▸ hr)⟩
 rw [addR_eq]
 split
 ·exact h.1
 ·rename_i hn
  rw [List.nodup_append]
  exact ⟨h.1, by simp, fun a ha b hb => by rw [List.mem_singleton.1 hb]; rintro rfl; exact hn ha⟩
theorem GoodR.nil : GoodR [] := ⟨List.nodup_nil, fun r h => absurd h (by simp)⟩
def whoR (F : List Fc) (A : Rl) (nm : Int) : Nat → List Rl → List Rl
 | 0, acc => acc
 | d + 1, acc => whoR F A nm d (if (⟨A, (6 : Int) - ((d + 1 : Nat) : Int)⟩ : Fc) ∈ F then addR acc ⟨(6 : Int) - ((d + 1 : Nat) : Int), nm⟩ else acc)
def leanC (F : List Fc) (r : Rl) (acc : List Rl) (c : Cr) : List Rl :=
 if c.f1 = r ∧ cOk c = true ∧ c.f0 ≠ 1 then
  (if c.f0 = 3 then whoR F c.f3 c.f4.f1 6 (if c.f0 = 4 then addR (addR acc c.f3) c.f4 else addR acc c.f3) else (if c.f0 = 4 then addR (addR acc c.f3) c.f4 else addR acc c.f3))
 else acc
def leansD (list : List Cr) (r : Rl) : List Rl := list.foldl (leanC (factsF list) r) []
theorem whoR_mem {F : List Fc} {A : Rl} {nm : Int} {x : Rl} : ∀ (d : Nat) (acc : List Rl), d ≤ 6 → (x ∈ whoR F A nm d acc ↔ x ∈ acc ∨ ∃ w : Int, 6 - (d : Int) ≤ w ∧ w < 6 ∧ (⟨A, w⟩ : Fc) ∈ F ∧ x = ⟨w, nm⟩) := by
 intro d
 induction d with
 | zero => intro acc _; simp [whoR]; intro w h1 h2; omega
 | succ d ih =>
  intro acc hd
  unfold whoR
  rw [ih _ (by omega)]
  constructor
  ·rintro (h | ⟨w, h1, h2, h3, h4⟩)
   ·split at h
    ·rename_i hf
     rcases mem_addR.1 h with h | h
     ·exact .inl h
     ·exact .inr ⟨_, by omega, by omega, hf, h⟩
    ·exact .inl h
   ·exact .inr ⟨w, by omega, h2, h3, h4⟩
  ·rintro (h | ⟨w, h1, h2, h3, h4⟩)
   ·left
    split
    ·exact mem_addR.2 (.inl h)
    ·exact h
   ·by_cases hw : w = (6 : Int) - ((d + 1 : Nat) : Int)
    ·left
     subst hw
     rw [if_pos h3]
     exact mem_addR.2 (.inr h4)
    ·exact .inr ⟨w, by omega, h2, h3, h4⟩
theorem whoR_good {F : List Fc} {A : Rl} {nm : Int} (hn : 0 ≤ nm ∧ nm ≤ 3) : ∀ (d : Nat) (acc : List Rl), d ≤ 6 → GoodR acc → GoodR (whoR F A nm d acc) := by
 intro d
 induction d with
 | zero => exact fun _ _ h => h
 | succ d ih =>
  intro acc hd h
  refine ih _ (by omega) ?_
  split
  ·exact h.add (roleOk_iff.2 (by simp only; omega))
  ·exact h
theorem cOk_bounds {c : Cr} (h : cOk c = true) : (1 ≤ c.f0 ∧ c.f0 ≤ 4) ∧ roleOkB c.f1.f0 c.f1.f1 = true ∧ roleOkB c.f3.f0 c.f3.f1 = true ∧ roleOkB c.f4.f0 c.f4.f1 = true ∧ (0 ≤ c.f4.f1 ∧ c.f4.f1 ≤ 3) := by
 have := credOk_bounds h
 refine ⟨by omega, roleOk_iff.2 (by omega), roleOk_iff.2 (by omega), roleOk_iff.2 (by omega), by omega⟩
theorem leanC_good {F : List Fc} {r : Rl} {acc : List Rl} (h : GoodR acc) (c : Cr) : GoodR (leanC F r acc c) := by
 unfold leanC
 split
 ·rename_i hc
  obtain ⟨h0, h1, h3, h4, hn⟩ := cOk_bounds hc.2.1
  have h5 : GoodR (if c.f0 = 4 then addR (addR acc c.f3) c.f4 else addR acc c.f3) := by
   split
   ·exact (h.add h3).add h4
   ·exact h.add h3
  split
  ·exact whoR_good hn 6 _ (Nat.le_refl _) h5
  ·exact h5
 ·exact h
theorem leans_good (F : List Fc) (r : Rl) : ∀ (cs : List Cr) (acc : List Rl), GoodR acc → GoodR (cs.foldl (leanC F r) acc) := by
 intro cs
 induction cs with
 | nil => exact fun _ h => h
 | cons c cs ih => exact fun acc h => ih _ (leanC_good h c)
def Leans (list : List Cr) (r x : Rl) : Prop := ∃ c ∈ list, cOk c = true ∧ c.f1 = r ∧ c.f0 ≠ 1 ∧ (x = c.f3 ∨ (c.f0 = 4 ∧ x = c.f4) ∨ (c.f0 = 3 ∧ ∃ w : Int, (⟨c.f3, w⟩ : Fc) ∈ factsF list ∧ x = ⟨w, c.f4.f1⟩))
theorem factsF_who {list : List Cr} {A : Rl} {w : Int} (h : (⟨A, w⟩ : Fc) ∈ factsF list) : 0 ≤ w ∧ w < 6 := by
 have := factsF_right list _ h
 unfold fOk inB at this
 simp only [Bool.and_eq_true, decide_eq_true_eq] at this
 omega
theorem leanC_mem {list : List Cr} {r x : Rl} {acc : List Rl} {c : Cr} : x ∈ leanC (factsF list) r acc c ↔ x ∈ acc ∨ (cOk c = true ∧ c.f1 = r ∧ c.f0 ≠ 1 ∧ (x = c.f3 ∨ (c.f0 = 4 ∧ x = c.f4) ∨ (c.f0 = 3 ∧ ∃ w : Int, (⟨c.f3, w⟩ : Fc) ∈ factsF list ∧ x = ⟨w, c.f4.f1⟩))) := by
 unfold leanC
 by_cases h : c.f1 = r ∧ cOk c = true ∧ c.f0 ≠ 1
 ·rw [if_pos h]
  have e : cOk c = true ∧ c.f1 = r ∧ c.f0 ≠ 1 := ⟨h.2.1, h.1, h.2.2⟩
  by_cases h3 : c.f0 = 3
  ·rw [if_pos h3, whoR_mem 6 _ (Nat.le_refl _), if_neg (by omega), mem_addR]
   constructor
   ·rintro ((h' | h') | ⟨w, _, _, hf, hx⟩)
    ·exact .inl h'
    ·exact .inr ⟨h.2.1, h.1, h.2.2, .inl h'⟩
    ·exact .inr ⟨h.2.1, h.1, h.2.2, .inr (.inr ⟨h3, w, hf, hx⟩)⟩
   ·rintro (h' | ⟨_, _, _, h' | ⟨h4, _⟩ | ⟨_, w, hf, hx⟩⟩)
    ·exact .inl (.inl h')
    ·exact .inl (.inr h')
    ·omega
    ·have := factsF_who hf
     exact .inr ⟨w, by omega, by omega, hf, hx⟩
  ·rw [if_neg h3]
   by_cases h4 : c.f0 = 4
   ·rw [if_pos h4, mem_addR, mem_addR]
    constructor
    ·rintro ((h' | h') | h')
     ·exact .inl h'
     ·exact .inr ⟨h.2.1, h.1, h.2.2, .inl h'⟩
     ·exact .inr ⟨h.2.1, h.1, h.2.2, .inr (.inl ⟨h4, h'⟩)⟩
    ·rintro (h' | ⟨_, _, _, h' | ⟨_, h'⟩ | ⟨h', _⟩⟩)
     ·exact .inl (.inl h')
     ·exact .inl (.inr h')
     ·exact .inr h'
     ·omega
   ·rw [if_neg h4, mem_addR]
    constructor
    ·rintro (h' | h')
     ·exact .inl h'
     ·exact .inr ⟨h.2.1, h.1, h.2.2, .inl h'⟩
    ·rintro (h' | ⟨_, _, _, h' | ⟨h', _⟩ | ⟨h', _⟩⟩)
     ·exact .inl h'
     ·exact .inr h'
     ·omega
     ·omega
 ·rw [if_neg h]
  exact ⟨.inl, fun h' => h'.elim id (fun ⟨h1, h2, h3, _⟩ => absurd ⟨h2, h1, h3⟩ h)⟩
theorem leansD_mem {list : List Cr} {r x : Rl} : x ∈ leansD list r ↔ Leans list r x := by
 have key : ∀ (cs : List Cr) (acc : List Rl), x ∈ cs.foldl (leanC (factsF list) r) acc ↔ x ∈ acc ∨ ∃ c ∈ cs, cOk c = true ∧ c.f1 = r ∧ c.f0 ≠ 1 ∧ (x = c.f3 ∨ (c.f0 = 4 ∧ x = c.f4) ∨ (c.f0 = 3 ∧ ∃ w : Int, (⟨c.f3, w⟩ : Fc) ∈ factsF list ∧ x = ⟨w, c.f4.f1⟩)) := by
  intro cs
  induction cs with
  | nil => intro acc; simp
  | cons c cs ih =>
   intro acc
   rw [List.foldl_cons, ih, leanC_mem]
   constructor
   ·rintro ((h | h) | ⟨d, hd, h⟩)
    ·exact .inl h
    ·exact .inr ⟨c, List.mem_cons_self .., h⟩
    ·exact .inr ⟨d, List.mem_cons_of_mem _ hd, h⟩
   ·rintro (h | ⟨d, hd, h⟩)
    ·exact .inl (.inl h)
    ·rcases List.mem_cons.1 hd with rfl | hd
     ·exact .inl (.inr h)
     ·exact .inr ⟨d, hd, h⟩
 unfold leansD
 rw [key]
 simp [Leans]
end Q
end Go.Proofs.Ytcbhmcpdnokbiaa
