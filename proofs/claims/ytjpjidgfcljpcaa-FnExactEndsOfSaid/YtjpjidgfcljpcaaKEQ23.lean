/-
What a circle leans on, what it reaches, and the words that are needed for it, by the reference.
-/
import Derived.Test.YtjpjidgfcljpcaaKEQ16
namespace Go.Proofs.Ytjpjidgfcljpcaa
open Go.RowKit Go.Proofs.YtjpjidgfcljpcaaW.PrintWords Go.Proofs.YtjpjidgfcljpcaaW.PrintLast Go.Proofs.YtjpjidgfcljpcaaW.PrintMore Go.Proofs.Ytjpjidgfcljpcaa.PA
set_option linter.unusedVariables false
set_option linter.unusedSimpArgs false
namespace Q
def GoodR (l : List Rl) : Prop := l.Nodup ∧ ∀ r ∈ l, roleOkB r.f0 r.f1 = true
def allR : List Rl := (List.range 6).flatMap fun a => (List.range 4).map fun (b : Nat) => (⟨((a : Nat) : Int), (b : Int)⟩ : Rl)
theorem allR_len : allR.length = 24 := by decide +kernel
theorem allR_mem {x : Rl} (h : roleOkB x.f0 x.f1 = true) : x ∈ allR := by
 obtain ⟨a, b⟩ := x
 unfold roleOkB inB at h
 simp only [Bool.and_eq_true, decide_eq_true_eq] at h
 obtain ⟨⟨h1, h2⟩, h3, h4⟩ := h
 unfold allR
 simp only [List.mem_flatMap, List.mem_map, List.mem_range]
 refine ⟨a.toNat, by omega, b.toNat, by omega, ?_⟩
 rw [Int.toNat_of_nonneg h1, Int.toNat_of_nonneg h3]
theorem GoodR.len {l : List Rl} (h : GoodR l) : l.length ≤ 24 := by
 rw [← allR_len]
 exact nodup_le l allR h.1 (fun x hx => allR_mem (h.2 x hx))
theorem isRole_iff (a b : Int) (x : Rl) : isRole a b x = true ↔ x = ⟨a, b⟩ := by
 obtain ⟨p, q⟩ := x
 unfold isRole
 rw [Bool.and_eq_true, beq_iff_eq, beq_iff_eq]
 constructor
 ·rintro ⟨rfl, rfl⟩; rfl
 ·intro h; injection h with h1 h2; exact ⟨h1.symm, h2.symm⟩
theorem addR_eq (l : List Rl) (r : Rl) : addR l r = if r ∈ l then l else l ++ [r] := by
 unfold addR
 have : l.any (isRole r.f0 r.f1) = decide (r ∈ l) := by
  rw [Bool.eq_iff_iff, List.any_eq_true, decide_eq_true_eq]
  constructor
  ·rintro ⟨x, hx, h⟩
   rw [isRole_iff] at h
   subst h
   exact hx
  ·exact fun h => ⟨_, h, (isRole_iff _ _ _).2 rfl⟩
 rw [this]
 simp only [decide_eq_true_eq]
theorem mem_addR {l : List Rl} {r x : Rl} : x ∈ addR l r ↔ x ∈ l ∨ x = r := by
 rw [addR_eq]
 split
 ·rename_i h
  exact ⟨.inl, fun h' => h'.elim id (fun e => e ▸ h)⟩
 ·simp
theorem GoodR.add {l : List Rl} (h : GoodR l) {r : Rl} (hr : roleOkB r.f0 r.f1 = true) : GoodR (addR l r) := by
 refine ⟨?_, fun x hx => (mem_addR.1 hx).elim (h.2 x) (fun e => e ▸ hr)⟩
 rw [addR_eq]
 split
 ·exact h.1
 ·rename_i hn
  rw [List.nodup_append]
  exact ⟨h.1, by simp, fun a ha b hb => by rw [List.mem_singleton.1 hb]; rintro rfl; exact hn ha⟩
theorem GoodR.nil : GoodR [] := ⟨List.nodup_nil, fun r h => absurd h (by simp)⟩
end Q
end Go.Proofs.Ytjpjidgfcljpcaa
