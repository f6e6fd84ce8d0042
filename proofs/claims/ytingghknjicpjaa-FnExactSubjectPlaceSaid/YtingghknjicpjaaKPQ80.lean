/-
The digest of a text: the program's words and rounds are the reference's.
-/
import Derived.Test.YtingghknjicpjaaKPPBx2
import Derived.Test.YtingghknjicpjaaKPQ0
namespace Go.Proofs.Ytingghknjicpjaa
open Go.RowKit Go.Proofs.YtingghknjicpjaaW.PrintWords Go.Proofs.YtingghknjicpjaaW.PrintLast Go.Proofs.YtingghknjicpjaaW.PrintMore Go.Proofs.Ytingghknjicpjaa.PB PS
set_option linter.unusedVariables false
set_option linter.unusedSimpArgs false
namespace Q
theorem shaN (l : List Int) (i : Nat) (h : i < l.length) : rd l (i : Int) = l[i] := by simp [rd, h]
theorem xor_comm (x y : Int) : Go.bits .xor .u32 x y = Go.bits .xor .u32 y x := by unfold Go.bits; simp only; rw [BitVec.xor_comm]
theorem turn_i (x : Int) {n : Int} (h0 : 0 ≤ n) (h1 : n ≤ 32) : impl_turn.f x n = some (tv x n) := by
 unfold impl_turn.f tv
 rw [if_pos h0, w64 (n := 32 - n) (by omega) (by omega), if_pos (by omega)]
theorem take_set {α : Type} (l : List α) (i : Nat) (v : α) (h : i < l.length) : (l.set i v).take (i + 1) = l.take i ++ [v] := by
 rw [List.take_succ_eq_append_getElem (by simpa using h), List.take_set_of_le (Nat.le_refl _)]
 simp
theorem rd_take (l : List Int) (i j : Nat) (h : j < i) (hl : j < l.length) : rd (l.take i) (j : Int) = rd l (j : Int) := by
 rw [shaN _ _ (by simp; omega), shaN _ _ hl, List.getElem_take]
theorem sch_l0 (b : ByteArray) (hb : b.size = 64) : ∀ (d i : Nat), 16 - i = d → i ≤ 16 → Ev (fun k => impl_schedule.l1 k ((wA b 16).take 16) 16) (wB b 48) → Ev (fun k => impl_schedule.l0 k b ((wA b i).take i) (i : Int)) (wB b 48) := by
 intro d
 induction d with
 | zero =>
  intro i h1 h2 hn
  obtain rfl : i = 16 := by omega
  refine Ev.succ ?_
  simp only [impl_schedule.l0, show ¬ (((16 : Nat) : Int) < 16) by omega, ↓reduceIte]
  exact hn
 | succ d ih =>
  intro i h1 h2 hn
  have hx := ih (i + 1) (by omega) (by omega) hn
  rw [wA, take_set _ _ _ (by rw [wA_len]; omega)] at hx
  have hl : ((wA b i).take i).length = i := by rw [List.length_take, wA_len]; omega
  refine Ev.succ ?_
  have e0 : wrap64 (4 * (i : Int)) = ((4 * i : Nat) : Int) := by rw [w64 (by omega) (by omega)]; omega
  have e1 : wrap64 (((4 * i : Nat) : Int) + 1) = ((4 * i + 1 : Nat) : Int) := by rw [w64 (by omega) (by omega)]; omega
  have e2 : wrap64 (((4 * i : Nat) : Int) + 2) = ((4 * i + 2 : Nat) : Int) := by rw [w64 (by omega) (by omega)]; omega
  have e3 : wrap64 (((4 * i : Nat) : Int) + 3) = ((4 * i + 3 : Nat) : Int) := by rw [w64 (by omega) (by omega)]; omega
  have e4 : wrap64 ((i : Int) + 1) = ((i + 1 : Nat) : Int) := by rw [w64 (by omega) (by omega)]; omega
  simp only [impl_schedule.l0, show (i : Int) < 16 by omega, e0, e1, e2, e3, e4, hb, hl, ↓reduceIte, show (0 : Int) ≤ ((4 * i : Nat) : Int) by omega, show (0 : Int) ≤ ((4 * i + 1 : Nat) : Int) by omega, show (0 : Int) ≤ ((4 * i + 2 : Nat) : Int) by omega, show (0 : Int) ≤ ((4 * i + 3 : Nat) : Int) by omega,
   show ((4 * i : Nat) : Int) < ((64 : Nat) : Int) by omega, show ((4 * i + 1 : Nat) : Int) < ((64 : Nat) : Int) by omega, show ((4 * i + 2 : Nat) : Int) < ((64 : Nat) : Int) by omega, show ((4 * i + 3 : Nat) : Int) < ((64 : Nat) : Int) by omega, show i < 35184372088832 by omega]
  exact hx
theorem sch_l1 (b : ByteArray) : ∀ (d k0 : Nat), 48 - k0 = d → k0 ≤ 48 → Ev (fun k => impl_schedule.l1 k ((wB b k0).take (k0 + 16)) ((k0 + 16 : Nat) : Int)) (wB b 48) := by
 intro d
 induction d with
 | zero =>
  intro j h1 h2
  obtain rfl : j = 48 := by omega
  refine Ev.succ ?_
  simp only [impl_schedule.l1, show ¬ (((48 + 16 : Nat) : Int) < 64) by omega, ↓reduceIte]
  rw [List.take_of_length_le (by rw [wB_len]; omega)]
  exact Ev.now _
 | succ d ih =>
  intro j h1 h2
  have hx := ih (j + 1) (by omega) (by omega)
  rw [wB, show j + 1 + 16 = (j + 16) + 1 by omega, take_set _ _ _ (by rw [wB_len]; omega)] at hx
  have hl : ((wB b j).take (j + 16)).length = j + 16 := by rw [List.length_take, wB_len]; omega
  refine Ev.succ ?_
  have e15 : wrap64 (((j + 16 : Nat) : Int) - 15) = ((j + 1 : Nat) : Int) := by rw [w64 (by omega) (by omega)]; omega
  have e2 : wrap64 (((j + 16 : Nat) : Int) - 2) = ((j + 14 : Nat) : Int) := by rw [w64 (by omega) (by omega)]; omega
  have e16 : wrap64 (((j + 16 : Nat) : Int) - 16) = ((j : Nat) : Int) := by rw [w64 (by omega) (by omega)]; omega
  have e7 : wrap64 (((j + 16 : Nat) : Int) - 7) = ((j + 9 : Nat) : Int) := by rw [w64 (by omega) (by omega)]; omega
  have e1 : wrap64 (((j + 16 : Nat) : Int) + 1) = ((j + 16 + 1 : Nat) : Int) := by rw [w64 (by omega) (by omega)]; omega
  simp only [impl_schedule.l1, show ((j + 16 : Nat) : Int) < 64 by omega, e15, e2, e16, e7, e1, hl, ↓reduceIte, show (0 : Int) ≤ ((j + 1 : Nat) : Int) by omega, show (0 : Int) ≤ ((j + 14 : Nat) : Int) by omega, show (0 : Int) ≤ ((j : Nat) : Int) by omega, show (0 : Int) ≤ ((j + 9 : Nat) : Int) by omega,
   show ((j + 1 : Nat) : Int) < ((j + 16 : Nat) : Int) by omega, show ((j + 14 : Nat) : Int) < ((j + 16 : Nat) : Int) by omega, show ((j : Nat) : Int) < ((j + 16 : Nat) : Int) by omega, show ((j + 9 : Nat) : Int) < ((j + 16 : Nat) : Int) by omega, show j + 16 < 35184372088832 by omega,
   turn_i _ (show (0 : Int) ≤ 7 by omega) (by omega), turn_i _ (show (0 : Int) ≤ 18 by omega) (by omega), turn_i _ (show (0 : Int) ≤ 17 by omega) (by omega), turn_i _ (show (0 : Int) ≤ 19 by omega) (by omega), Option.bind_some,
   rd_take (wB b j) _ _ (show j + 1 < j + 16 by omega) (by rw [wB_len]; omega), rd_take (wB b j) _ _ (show j + 14 < j + 16 by omega) (by rw [wB_len]; omega), rd_take (wB b j) _ _ (show j < j + 16 by omega) (by rw [wB_len]; omega), rd_take (wB b j) _ _ (show j + 9 < j + 16 by omega) (by rw [wB_len]; omega), Int.emod_add_emod]
  exact hx
theorem schedule_ok (b : ByteArray) (hb : b.size = 64) : Ev (fun k => impl_schedule.f k b) (wB b 48) := by
 have h := sch_l1 b 48 0 rfl (by omega)
 exact sch_l0 b hb 16 0 rfl (by omega) h
theorem eight {S : List Int} (h : S.length = 8) : ∃ a b c d e f g i, S = [a, b, c, d, e, f, g, i] := by
 match S, h with
 | [a, b, c, d, e, f, g, i], _ => exact ⟨a, b, c, d, e, f, g, i, rfl⟩
theorem rounds_l1 (out S0 W : List Int) (hS : S0.length = 8) (hW : W.length = 64) (R : List Int) (hn : Ev (fun k => impl_ShaBlock.l2 k out (stC S0 keysV W 64) ((stC S0 keysV W 64).length : Int) 0) R) :
  ∀ (d i : Nat), 64 - i = d → i ≤ 64 → Ev (fun k => impl_ShaBlock.l1 k out (stC S0 keysV W i) keysV W (W.length : Int) (i : Int)) R := by
 intro d
 induction d with
 | zero =>
  intro i h1 h2
  obtain rfl : i = 64 := by omega
  refine Ev.succ ?_
  simp only [impl_ShaBlock.l1, hW, show ¬ (((64 : Nat) : Int) < ((64 : Nat) : Int)) by omega, ↓reduceIte]
  exact hn
 | succ d ih =>
  intro i h1 h2
  have hx := ih (i + 1) (by omega) (by omega)
  have hl : (stC S0 keysV W i).length = 8 := (stC_len _ _ _ _).trans hS
  rw [stC] at hx
  generalize stC S0 keysV W i = S at hx hl ⊢
  have e1 : wrap64 ((i : Int) + 1) = ((i + 1 : Nat) : Int) := by rw [w64 (by omega) (by omega)]; omega
  refine Ev.succ ?_
  simp only [impl_ShaBlock.l1, hW, hl, keysV_len, e1, show (i : Int) < ((64 : Nat) : Int) by omega, show (0 : Int) ≤ (i : Int) by omega, ↓reduceIte, show (4 : Int) < ((8 : Nat) : Int) by omega, show (0 : Int) < ((8 : Nat) : Int) by omega, show (7 : Int) < ((8 : Nat) : Int) by omega, show (5 : Int) < ((8 : Nat) : Int) by omega, show (6 : Int) < ((8 : Nat) : Int) by omega, show (1 : Int) < ((8 : Nat) : Int) by omega, show (2 : Int) < ((8 : Nat) : Int) by omega, show (3 : Int) < ((8 : Nat) : Int) by omega,
   turn_i _ (show (0 : Int) ≤ 6 by omega) (by omega), turn_i _ (show (0 : Int) ≤ 11 by omega) (by omega), turn_i _ (show (0 : Int) ≤ 25 by omega) (by omega), turn_i _ (show (0 : Int) ≤ 2 by omega) (by omega), turn_i _ (show (0 : Int) ≤ 13 by omega) (by omega), turn_i _ (show (0 : Int) ≤ 22 by omega) (by omega), Option.bind_some]
  have e : rnd S (rd keysV (i : Int)) (rd W (i : Int)) = [(rOne S (rd keysV (i : Int)) (rd W (i : Int)) + rTwo S) % 4294967296, rd S 0, rd S 1, rd S 2, (rd S 3 + rOne S (rd keysV (i : Int)) (rd W (i : Int))) % 4294967296, rd S 4, rd S 5, rd S 6] := by
   obtain ⟨a, b, c, d, e, f, g, h, rfl⟩ := eight hl
   rfl
  rw [e] at hx
  unfold rOne rTwo at hx
  rw [hW] at hx
  simp only [Int.emod_add_emod, Int.add_emod_emod, xor_comm 4294967295] at hx ⊢
  exact hx
end Q
end Go.Proofs.Ytingghknjicpjaa
