import Derived.Test.YtcgnegnljffkmaaKFnExactReadPolicyPAx0
import Derived.Test.YtcgnegnljffkmaaKFnExactReadPolicyPAx3
import Derived.Test.YtcgnegnljffkmaaKFnExactReadPolicyPAx6
-- A text of this claim: written by the session's own program out of the translation (wip/tools). Lean checks it.
namespace Go.Proofs.Ytcgnegnljffkmaa.PA
open Go.RowKit Go.Proofs.YtcgnegnljffkmaaW.PrintWords Go.Proofs.YtcgnegnljffkmaaW.PrintLast Go.Proofs.YtcgnegnljffkmaaW.PrintMore
attribute [local go_sem] max2_int min2_int max_two min_two max_three min_three max_four min_four   -- for this text's walks alone
set_option linter.unusedVariables false
set_option linter.unusedSimpArgs false
mutual
def impl_ReadVar.l0 : Nat → ByteArray → Int → Int → Int → Option (Int × Int × Bool)
 | 0, _, _, _, _ => none
 | k + 1, x0, x1, x7, x8 => if x8 < 5 then (impl_ReadVar.j1 k x0 x1 x7 x8 (decide ((wrap64 (x1 + x8)) < (x0.size : Int)))) else (impl_ReadVar.j1 k x0 x1 x7 x8 false)
def impl_ReadVar.j1 : Nat → ByteArray → Int → Int → Int → Bool → Option (Int × Int × Bool)
 | 0, _, _, _, _, _ => none
 | k + 1, x0, x1, x7, x8, x24 => if x24 = true then (if 0 ≤ (wrap64 (x1 + x8)) then (if (wrap64 (x1 + x8)) < (x0.size : Int) then (if 0 ≤ (wrap64 (7 * x8)) then (if (wrap64 (bt x0 (wrap64 (x1 + x8)))) > 127 then (impl_ReadVar.l0 k x0 x1 (Go.bits .or .i64 x7 (shl .i64 (Go.bits .and .i64 (wrap64 (bt x0 (wrap64 (x1 + x8)))) 127) (wrap64 (7 * x8)))) (wrap64 (x8 + 1))) else (if (wrap64 (bt x0 (wrap64 (x1 + x8)))) = 0 then (if x8 > 0 then (some (0, 0, false)) else (if (Go.bits .or .i64 x7 (shl .i64 (Go.bits .and .i64 (wrap64 (bt x0 (wrap64 (x1 + x8)))) 127) (wrap64 (7 * x8)))) > 1000000000 then (some (0, 0, false)) else (some (Go.bits .or .i64 x7 (shl .i64 (Go.bits .and .i64 (wrap64 (bt x0 (wrap64 (x1 + x8)))) 127) (wrap64 (7 * x8))), wrap64 ((wrap64 (x1 + x8)) + 1), true)))) else (if (Go.bits .or .i64 x7 (shl .i64 (Go.bits .and .i64 (wrap64 (bt x0 (wrap64 (x1 + x8)))) 127) (wrap64 (7 * x8)))) > 1000000000 then (some (0, 0, false)) else (some (Go.bits .or .i64 x7 (shl .i64 (Go.bits .and .i64 (wrap64 (bt x0 (wrap64 (x1 + x8)))) 127) (wrap64 (7 * x8))), wrap64 ((wrap64 (x1 + x8)) + 1), true))))) else (none)) else (none)) else (none)) else (some (0, 0, false))
end
def impl_ReadVar.f (k : Nat) (a0 : ByteArray) (a1 : Int) : Option (Int × Int × Bool) := (impl_in.f a1 0 (a0.size : Int)).bind fun t658 => (if t658 = true then (impl_ReadVar.l0 k a0 a1 0 0) else (some (0, 0, false)))
set_option maxHeartbeats 8000000 in
set_option maxRecDepth 100000 in
theorem impl_ReadVar.calls (k : Nat) (a0 : ByteArray) (a1 : Int) (r1 : Int) (r2 : Int) (r3 : Bool) (w : World) (h : impl_ReadVar.f k a0 a1 = some (r1, r2, r3)) :
  Calls Try.prog 117 #[.string a0, .int .i64 a1] w fun e w' => e = .returned (.tuple #[.int .i64 r1, .int .i64 r2, .bool r3]) ∧ Drawn0 w w' := by
 have H : ((impl_in.f a1 0 (a0.size : Int)).bind fun t658 => (if t658 = true then (impl_ReadVar.l0 k a0 a1 0 0) else (some (0, 0, false)))) = some (r1, r2, r3) := h
 clear h
 obtain ⟨t658, A3, H⟩ := bindE_ H
 by_cases c4 : t658 = true
 ·subst c4
  replace H := ite_t_ H
  have H' := Aside0.mk H
  clear H
  go_enter Try.func117, Try.ntmps117
  go_wp2_with (first | ((with_reducible refine gate_callee (f := 79) rfl ?_); refine goesC_ (some 13) Try.func79 #[.int .i64 a1, .int .i64 0, .int .i64 (a0.size : Int)] ?_; (with_reducible refine (impl_in.calls a1 0 (a0.size : Int) true _ A3.out).mono ?_); rintro e w' ⟨rfl, ⟨nd, rfl⟩⟩; refine ⟨_, rfl, ?_⟩))
  go_loopg [7, 8] k (fun kq v7 v8 w' => ∃ (x7_1 : Int) (x8_1 : Int), v7 = .int .i64 x7_1 ∧ v8 = .int .i64 x8_1 ∧ Aside0 (impl_ReadVar.l0 kq a0 a1 x7_1 x8_1 = some (r1, r2, r3)) ∧ Aside0 (kq ≤ k) ∧ Drawn0 w w')
  case atStart => exact ⟨(0), (0), (by first | rfl | (simp; done) | (simp [*]; done)), (by first | rfl | (simp; done) | (simp [*]; done)), H', ⟨Nat.le_refl _⟩, by repeat (first | exact Drawn0.refl _ | apply Drawn0.step)⟩
  case round =>
   clear H'
   try clear c1
   try clear p2
   try clear c4
   obtain ⟨x7_1, x8_1, rfl, rfl, HA, HK1, ⟨m1, rfl⟩⟩ := hrel
   cases gk with
   | zero => exact absurd HA.out (by simp [impl_ReadVar.l0])
   | succ k1 =>
    have H := HA.out
    clear HA
    simp only [impl_ReadVar.l0] at H
    have HC5 := Aside0.mk H
    clear H
    go_upto_region 5 with (fail)
    go_cut [24] (fun v24 wc => ∃ (kq : Nat) (x24_4 : Bool), v24 = .bool x24_4 ∧ Aside0 (impl_ReadVar.j1 kq a0 a1 x7_1 x8_1 x24_4 = some (r1, r2, r3)) ∧ Aside0 (kq ≤ k1) ∧ Drawn0 w wc)
    case first =>
     have H := HC5.out
     clear HC5
     by_cases c6 : x8_1 < 5
     ·rw [if_pos c6] at H
      have c6b0 : decide (x8_1 < 5) = true := decide_eq_true c6
      clear c6
      (first | rw [c6b0] | (simp only [i64_w, i32_w]; rw [c6b0]) | skip)
      have H' := Aside0.mk H
      clear H
      go_wp2
      go_meet
      case rel => exact ⟨_, (decide ((wrap64 (a1 + x8_1)) < (a0.size : Int))), (by first | rfl | (simp; done) | (simp [*]; done)), H', ⟨by have := HK1.out; first | omega | exact Nat.le_refl _⟩, by repeat (first | exact Drawn0.refl _ | apply Drawn0.step)⟩
     ·rw [if_neg c6] at H
      have c6b0 : decide (x8_1 < 5) = false := decide_eq_false c6
      clear c6
      (first | rw [c6b0] | (simp only [i64_w, i32_w]; rw [c6b0]) | skip)
      have H' := Aside0.mk H
      clear H
      go_wp2
      go_meet
      case rel => exact ⟨_, (false), (by first | rfl | (simp; done) | (simp [*]; done)), H', ⟨by have := HK1.out; first | omega | exact Nat.le_refl _⟩, by repeat (first | exact Drawn0.refl _ | apply Drawn0.step)⟩
    case rest =>
     clear HC5
     try clear c1
     try clear p2
     try clear c4
     try clear c6
     try clear c6b0
     try clear p6
     try clear p2
     obtain ⟨kq, x24_4, rfl, HA, HJ4, ⟨mc4, rfl⟩⟩ := hcut
     cases kq with
     | zero => exact absurd HA.out (by simp [impl_ReadVar.j1])
     | succ kj4 =>
      have H := HA.out
      clear HA
      simp only [impl_ReadVar.j1] at H
      by_cases c7 : x24_4 = true
      ·subst c7
       replace H := ite_t_ H
       obtain ⟨ji8, hji8⟩ : ∃ j_ : Int, (wrap64 (a1 + x8_1)) = j_ := ⟨_, rfl⟩
       replace H : (if 0 ≤ (ji8) then (if (ji8) < (a0.size : Int) then (if 0 ≤ (wrap64 (7 * x8_1)) then (if (wrap64 (bt a0 (ji8))) > 127 then (impl_ReadVar.l0 kj4 a0 a1 (Go.bits .or .i64 x7_1 (shl .i64 (Go.bits .and .i64 (wrap64 (bt a0 (ji8))) 127) (wrap64 (7 * x8_1)))) (wrap64 (x8_1 + 1))) else (if (wrap64 (bt a0 (ji8))) = 0 then (if x8_1 > 0 then (some (0, 0, false)) else (if (Go.bits .or .i64 x7_1 (shl .i64 (Go.bits .and .i64 (wrap64 (bt a0 (ji8))) 127) (wrap64 (7 * x8_1)))) > 1000000000 then (some (0, 0, false)) else (some (Go.bits .or .i64 x7_1 (shl .i64 (Go.bits .and .i64 (wrap64 (bt a0 (ji8))) 127) (wrap64 (7 * x8_1))), wrap64 ((ji8) + 1), true)))) else (if (Go.bits .or .i64 x7_1 (shl .i64 (Go.bits .and .i64 (wrap64 (bt a0 (ji8))) 127) (wrap64 (7 * x8_1)))) > 1000000000 then (some (0, 0, false)) else (some (Go.bits .or .i64 x7_1 (shl .i64 (Go.bits .and .i64 (wrap64 (bt a0 (ji8))) 127) (wrap64 (7 * x8_1))), wrap64 ((ji8) + 1), true))))) else (none)) else (none)) else (none)) = some (r1, r2, r3) := by first | (rw [hji8] at H; exact H) | (simp only [hji8] at H ⊢; exact H)
       have hji8w : (IntKind.i64.wrap (a1 + x8_1)) = ji8 := (i64_w _).trans hji8
       by_cases c9 : 0 ≤ (ji8)
       ·rw [if_pos c9] at H
        have c9b0 : decide (0 ≤ (ji8)) = true := decide_eq_true c9
        clear c9
        by_cases c10 : (ji8) < (a0.size : Int)
        ·rw [if_pos c10] at H
         have c10b0 : decide ((ji8) < (a0.size : Int)) = true := decide_eq_true c10
         clear c10
         obtain ⟨ji12, hji12⟩ : ∃ j_ : Int, (wrap64 (7 * x8_1)) = j_ := ⟨_, rfl⟩
         replace H : (if 0 ≤ (ji12) then (if (wrap64 (bt a0 (ji8))) > 127 then (impl_ReadVar.l0 kj4 a0 a1 (Go.bits .or .i64 x7_1 (shl .i64 (Go.bits .and .i64 (wrap64 (bt a0 (ji8))) 127) (ji12))) (wrap64 (x8_1 + 1))) else (if (wrap64 (bt a0 (ji8))) = 0 then (if x8_1 > 0 then (some (0, 0, false)) else (if (Go.bits .or .i64 x7_1 (shl .i64 (Go.bits .and .i64 (wrap64 (bt a0 (ji8))) 127) (ji12))) > 1000000000 then (some (0, 0, false)) else (some (Go.bits .or .i64 x7_1 (shl .i64 (Go.bits .and .i64 (wrap64 (bt a0 (ji8))) 127) (ji12)), wrap64 ((ji8) + 1), true)))) else (if (Go.bits .or .i64 x7_1 (shl .i64 (Go.bits .and .i64 (wrap64 (bt a0 (ji8))) 127) (ji12))) > 1000000000 then (some (0, 0, false)) else (some (Go.bits .or .i64 x7_1 (shl .i64 (Go.bits .and .i64 (wrap64 (bt a0 (ji8))) 127) (ji12)), wrap64 ((ji8) + 1), true))))) else (none)) = some (r1, r2, r3) := by first | (rw [hji12] at H; exact H) | (simp only [hji12] at H ⊢; exact H)
         have hji12w : (IntKind.i64.wrap (7 * x8_1)) = ji12 := (i64_w _).trans hji12
         by_cases c13 : 0 ≤ (ji12)
         ·rw [if_pos c13] at H
          have c13b0 := eq_true c13
          have c13b1 : decide (0 ≤ (ji12)) = true := decide_eq_true c13
          clear c13
          obtain ⟨ji14, hji14⟩ : ∃ j_ : Int, (shl .i64 (Go.bits .and .i64 (wrap64 (bt a0 (ji8))) 127) (ji12)) = j_ := ⟨_, rfl⟩
          replace H : (if (wrap64 (bt a0 (ji8))) > 127 then (impl_ReadVar.l0 kj4 a0 a1 (Go.bits .or .i64 x7_1 (ji14)) (wrap64 (x8_1 + 1))) else (if (wrap64 (bt a0 (ji8))) = 0 then (if x8_1 > 0 then (some (0, 0, false)) else (if (Go.bits .or .i64 x7_1 (ji14)) > 1000000000 then (some (0, 0, false)) else (some (Go.bits .or .i64 x7_1 (ji14), wrap64 ((ji8) + 1), true)))) else (if (Go.bits .or .i64 x7_1 (ji14)) > 1000000000 then (some (0, 0, false)) else (some (Go.bits .or .i64 x7_1 (ji14), wrap64 ((ji8) + 1), true))))) = some (r1, r2, r3) := by first | (rw [hji14] at H; exact H) | (simp only [hji14] at H ⊢; exact H)
          have hji14_ : (IntKind.i64.wrap ((Go.bits .and .i64 (wrap64 (bt a0 (ji8))) 127) * 2 ^ min (ji12).toNat 64)) = ji14 := hji14
          have hji14z : (ji12) ≤ 64 → (IntKind.i64.wrap ((Go.bits .and .i64 (wrap64 (bt a0 (ji8))) 127) * 2 ^ (ji12).toNat)) = ji14 := shl_small hji14
          have hji14y : (wrap64 ((Go.bits .and .i64 (wrap64 (bt a0 (ji8))) 127) * 2 ^ min (ji12).toNat 64)) = ji14 := (i64_w _).symm.trans hji14_
          have hji14x : (ji12) ≤ 64 → (wrap64 ((Go.bits .and .i64 (wrap64 (bt a0 (ji8))) 127) * 2 ^ (ji12).toNat)) = ji14 := fun h_ => (i64_w _).symm.trans (hji14z h_)
          by_cases c15 : (wrap64 (bt a0 (ji8))) > 127
          ·rw [if_pos c15] at H
           have c15b0 : decide (127 < (wrap64 (bt a0 (ji8)))) = true := decide_eq_true c15
           clear c15
           have H' := Aside0.mk H
           clear H
           have p11 : 0 ≤ ((ji8) : Int) := of_decide_eq_true (by first | (with_reducible assumption) | assumption)
           have q11 : (ji8) < (a0.size : Int) := of_decide_eq_true (by first | (with_reducible assumption) | assumption)
           have hx11 := bt_at a0 (ji8)
           replace p11 := eq_true p11
           replace q11 := eq_true q11
           go_wp2
           go_roundg kj4
           case measure => have := HK1.out; have := HJ4.out; omega
           case rel => exact ⟨(Go.bits .or .i64 x7_1 (ji14)), (wrap64 (x8_1 + 1)), (by first | rfl | (simp; done) | (simp only [← hji14] <;> (first | rfl | simp)) | (simp [*]; done)), (by first | rfl | (simp; done) | (simp [*]; done)), H', ⟨by have := HK1.out; have := HJ4.out; omega⟩, by repeat (first | exact Drawn0.refl _ | apply Drawn0.step)⟩
          ·rw [if_neg c15] at H
           have c15b0 : decide (127 < (wrap64 (bt a0 (ji8)))) = false := decide_eq_false c15
           clear c15
           by_cases c16 : (wrap64 (bt a0 (ji8))) = 0
           ·rw [if_pos c16] at H
            have c16b0 : ((wrap64 (bt a0 (ji8))) == 0) = true := beq_iff_eq.mpr c16
            have c16b1 : ((wrap64 (bt a0 (ji8))) != 0) = false := bne_eq_false_iff_eq.mpr c16
            clear c16
            by_cases c17 : x8_1 > 0
            ·rw [if_pos c17] at H
             have c17b0 : decide (0 < x8_1) = true := decide_eq_true c17
             clear c17
             simp only [Option.some.injEq, Prod.mk.injEq] at H
             obtain ⟨rfl, rfl, rfl⟩ := H
             have p11 : 0 ≤ ((ji8) : Int) := of_decide_eq_true (by first | (with_reducible assumption) | assumption)
             have q11 : (ji8) < (a0.size : Int) := of_decide_eq_true (by first | (with_reducible assumption) | assumption)
             have hx11 := bt_at a0 (ji8)
             replace p11 := eq_true p11
             replace q11 := eq_true q11
             go_wp2
             go_ret3
             exact ⟨by first | rfl | (simp; done) | (simp only [← hji8, ← hji12, ← hji14] <;> (first | rfl | simp)) | (simp [*]; done), by repeat (first | exact Drawn0.refl _ | apply Drawn0.step)⟩
            ·rw [if_neg c17] at H
             have c17b0 : decide (0 < x8_1) = false := decide_eq_false c17
             clear c17
             by_cases c18 : (Go.bits .or .i64 x7_1 (ji14)) > 1000000000
             ·rw [if_pos c18] at H
              have c18b0 : decide (1000000000 < (Go.bits .or .i64 x7_1 (ji14))) = true := decide_eq_true c18
              clear c18
              simp only [Option.some.injEq, Prod.mk.injEq] at H
              obtain ⟨rfl, rfl, rfl⟩ := H
              have p11 : 0 ≤ ((ji8) : Int) := of_decide_eq_true (by first | (with_reducible assumption) | assumption)
              have q11 : (ji8) < (a0.size : Int) := of_decide_eq_true (by first | (with_reducible assumption) | assumption)
              have hx11 := bt_at a0 (ji8)
              replace p11 := eq_true p11
              replace q11 := eq_true q11
              go_wp2
              go_ret3
              exact ⟨by first | rfl | (simp; done) | (simp only [← hji8, ← hji12, ← hji14] <;> (first | rfl | simp)) | (simp [*]; done), by repeat (first | exact Drawn0.refl _ | apply Drawn0.step)⟩
             ·rw [if_neg c18] at H
              have c18b0 : decide (1000000000 < (Go.bits .or .i64 x7_1 (ji14))) = false := decide_eq_false c18
              clear c18
              simp only [Option.some.injEq, Prod.mk.injEq] at H
              obtain ⟨rfl, rfl, rfl⟩ := H
              have p11 : 0 ≤ ((ji8) : Int) := of_decide_eq_true (by first | (with_reducible assumption) | assumption)
              have q11 : (ji8) < (a0.size : Int) := of_decide_eq_true (by first | (with_reducible assumption) | assumption)
              have hx11 := bt_at a0 (ji8)
              replace p11 := eq_true p11
              replace q11 := eq_true q11
              go_wp2
              go_ret3
              exact ⟨by first | rfl | (simp; done) | (simp only [← hji8, ← hji12, ← hji14] <;> (first | rfl | simp)) | (simp [*]; done), by repeat (first | exact Drawn0.refl _ | apply Drawn0.step)⟩
           ·rw [if_neg c16] at H
            have c16b0 : ((wrap64 (bt a0 (ji8))) == 0) = false := beq_eq_false_iff_ne.mpr c16
            have c16b1 : ((wrap64 (bt a0 (ji8))) != 0) = true := bne_iff_ne.mpr c16
            by_cases c19 : (Go.bits .or .i64 x7_1 (ji14)) > 1000000000
            ·rw [if_pos c19] at H
             have c19b0 : decide (1000000000 < (Go.bits .or .i64 x7_1 (ji14))) = true := decide_eq_true c19
             clear c19
             simp only [Option.some.injEq, Prod.mk.injEq] at H
             obtain ⟨rfl, rfl, rfl⟩ := H
             have p11 : 0 ≤ ((ji8) : Int) := of_decide_eq_true (by first | (with_reducible assumption) | assumption)
             have q11 : (ji8) < (a0.size : Int) := of_decide_eq_true (by first | (with_reducible assumption) | assumption)
             have hx11 := bt_at a0 (ji8)
             replace p11 := eq_true p11
             replace q11 := eq_true q11
             go_wp2
             go_ret3
             exact ⟨by first | rfl | (simp; done) | (simp only [← hji8, ← hji12, ← hji14] <;> (first | rfl | simp)) | (simp [*]; done), by repeat (first | exact Drawn0.refl _ | apply Drawn0.step)⟩
            ·rw [if_neg c19] at H
             have c19b0 : decide (1000000000 < (Go.bits .or .i64 x7_1 (ji14))) = false := decide_eq_false c19
             clear c19
             simp only [Option.some.injEq, Prod.mk.injEq] at H
             obtain ⟨rfl, rfl, rfl⟩ := H
             have p11 : 0 ≤ ((ji8) : Int) := of_decide_eq_true (by first | (with_reducible assumption) | assumption)
             have q11 : (ji8) < (a0.size : Int) := of_decide_eq_true (by first | (with_reducible assumption) | assumption)
             have hx11 := bt_at a0 (ji8)
             replace p11 := eq_true p11
             replace q11 := eq_true q11
             go_wp2
             go_ret3
             exact ⟨by first | rfl | (simp; done) | (simp only [← hji8, ← hji12, ← hji14] <;> (first | rfl | simp)) | (simp [*]; done), by repeat (first | exact Drawn0.refl _ | apply Drawn0.step)⟩
         ·rw [if_neg c13] at H
          exact absurd H (by simp)
        ·rw [if_neg c10] at H
         exact absurd H (by simp)
       ·rw [if_neg c9] at H
        exact absurd H (by simp)
      ·replace c7 := Bool.eq_false_iff.mpr c7
       subst c7
       replace H := ite_f_ H
       simp only [Option.some.injEq, Prod.mk.injEq] at H
       obtain ⟨rfl, rfl, rfl⟩ := H
       go_wp2
       go_ret3
       exact ⟨by first | rfl | (simp; done) | (simp [*]; done), by repeat (first | exact Drawn0.refl _ | apply Drawn0.step)⟩
 ·replace c4 := Bool.eq_false_iff.mpr c4
  subst c4
  replace H := ite_f_ H
  simp only [Option.some.injEq, Prod.mk.injEq] at H
  obtain ⟨rfl, rfl, rfl⟩ := H
  go_enter Try.func117, Try.ntmps117
  go_wp2_with (first | ((with_reducible refine gate_callee (f := 79) rfl ?_); refine goesC_ (some 13) Try.func79 #[.int .i64 a1, .int .i64 0, .int .i64 (a0.size : Int)] ?_; (with_reducible refine (impl_in.calls a1 0 (a0.size : Int) false _ A3.out).mono ?_); rintro e w' ⟨rfl, ⟨nd, rfl⟩⟩; refine ⟨_, rfl, ?_⟩))
  go_ret3
  exact ⟨by first | rfl | (simp; done) | (simp [*]; done), by repeat (first | exact Drawn0.refl _ | apply Drawn0.step)⟩
def impl_readVars.l0 : Nat → ByteArray → Int → List Int → Int → Int → Option (List Int × Int × Bool)
 | 0, _, _, _, _, _ => none
 | k + 1, x0, x1, x9, x14, x15 => if x15 < x14 then ((impl_ReadVar.f k x0 x1).bind fun bt662 => (if bt662.2.2 = true then (if x9.length < 17592186044416 then (impl_readVars.l0 k x0 bt662.2.1 (x9 ++ [bt662.1]) x14 (wrap64 (x15 + 1))) else (none)) else (some (([] : List Int), 0, false)))) else (some (x9, x1, true))
def impl_readVars.f (k : Nat) (a0 : ByteArray) (a1 : Int) (a2 : Int) : Option (List Int × Int × Bool) := impl_readVars.l0 k a0 a1 (([] : List Int)) a2 0
set_option maxHeartbeats 8000000 in
set_option maxRecDepth 100000 in
theorem impl_readVars.calls (k : Nat) (a0 : ByteArray) (a1 : Int) (a2 : Int) (r1 : List Int) (r2 : Int) (r3 : Bool) (w : World) (h : impl_readVars.f k a0 a1 a2 = some (r1, r2, r3)) :
  Calls Try.prog 118 #[.string a0, .int .i64 a1, .int .i64 a2] w fun e w' => ∃ v0_ : Value, e = .returned (.tuple #[v0_, .int .i64 r2, .bool r3]) ∧ Kd.R (Kd.int .i64) 3 w' w.heap.size (fun _ => True) v0_ r1 ∧ Below w.heap.size w w' := by
 have HB := Aside0.mk (Below.refl w.heap.size w)
 have H : (impl_readVars.l0 k a0 a1 (([] : List Int)) a2 0) = some (r1, r2, r3) := h
 clear h
 obtain ⟨y659, hy659⟩ : ∃ y_ : List Int, y_ = (([] : List Int)) := ⟨_, rfl⟩
 replace H : (impl_readVars.l0 k a0 a1 y659 a2 0) = some (r1, r2, r3) := by first | (rw [hy659]; with_reducible exact H) | (have H2_ := (Option.bind_some _ _).symm.trans H; rw [hy659]; with_reducible exact H2_) | (have H2_ := (Option.bind_some _ _).symm.trans H; with_reducible exact H2_) | with_reducible exact H | (rw [hy659]; exact H) | exact H
 have Ny659 := Aside0.mk hy659
 clear hy659
 have H' := Aside0.mk H
 clear H
 go_enter Try.func118, Try.ntmps118
 go_wp2_with (first | ((with_reducible refine gate_dst (N := 13) rfl ?_); refine Kd.R_lit (Kd.int .i64) _ 3 ?hg (N := 13) ?hd (xs := ([] : List Int)) (inner := []) (ok := fun _ => True) (okp := fun _ => True) ?hr ?hp (fun _ hk => hk) trivial (Below.refl _ _) (Nat.le_refl _) (by simp) ?_; (case hd => rfl); (case hg => rfl); (case hr => first | (go_simp; done) | (go_simp; rfl)); (case hp => exact (Reps.none _ _)); intro v660 w4 ho5 hb hg_ hnew_; clear hg_ hnew_; (first | rw [← Ny659.out] at ho5 | (simp only [Int.reduceToNat] at ho5; rw [← Ny659.out] at ho5)); have HO661 := Aside0.mk (Kd.R_lower ho5 bls_); replace HB := hbs_ hb; clear hb ho5))
 go_loopg [1, 9, 15] k (fun kq v1 v9 v15 w' => ∃ (x1_1 : Int) (x9_1 : List Int) (x15_1 : Int), v1 = .int .i64 x1_1 ∧ v15 = .int .i64 x15_1 ∧ Aside0 (impl_readVars.l0 kq a0 x1_1 x9_1 a2 x15_1 = some (r1, r2, r3)) ∧ Aside0 (kq ≤ k) ∧ Aside0 (Kd.R (Kd.int .i64) 3 w' w.heap.size (fun _ => True) v9 x9_1) ∧ Aside0 (Below w.heap.size w w'))
 case atStart => exact ⟨(a1), (y659), (0), (by first | rfl | (simp; done) | (simp [*]; done)), (by first | rfl | (simp; done) | (simp [*]; done)), H', ⟨Nat.le_refl _⟩, ⟨by (with_reducible repeat (first | apply Kd.R_alloc | apply Kd.R_drewN | apply Kd.R_drew)); exact HO661.out⟩, ⟨bl_⟩⟩
 case round =>
  clear H'
  try clear c1
  try clear p2
  obtain ⟨x1_1, x9_1, x15_1, rfl, rfl, HA, HK1, HO_9, HB⟩ := hrel
  cases gk with
  | zero => exact absurd HA.out (by simp [impl_readVars.l0])
  | succ k1 =>
   have H := HA.out
   clear HA
   simp only [impl_readVars.l0] at H
   by_cases c6 : x15_1 < a2
   ·rw [if_pos c6] at H
    have c6b0 : decide (x15_1 < a2) = true := decide_eq_true c6
    clear c6
    obtain ⟨⟨t662, t663, t664⟩, A7, H⟩ := bindE_ H
    replace H : (if t664 = true then (if x9_1.length < 17592186044416 then (impl_readVars.l0 k1 a0 t663 (x9_1 ++ [t662]) a2 (wrap64 (x15_1 + 1))) else (none)) else (some (([] : List Int), 0, false))) = some (r1, r2, r3) := H
    by_cases c8 : t664 = true
    ·subst c8
     replace H := ite_t_ H
     by_cases c9 : x9_1.length < 17592186044416
     ·rw [if_pos c9] at H
      have LMc9 := Aside0.mk c9
      clear c9
      obtain ⟨y665, hy665⟩ : ∃ y_ : List Int, y_ = (x9_1 ++ [t662]) := ⟨_, rfl⟩
      replace H : (impl_readVars.l0 k1 a0 t663 y665 a2 (wrap64 (x15_1 + 1))) = some (r1, r2, r3) := by first | (rw [hy665]; with_reducible exact H) | (have H2_ := (Option.bind_some _ _).symm.trans H; rw [hy665]; with_reducible exact H2_) | (have H2_ := (Option.bind_some _ _).symm.trans H; with_reducible exact H2_) | with_reducible exact H | (rw [hy665]; exact H) | exact H
      have Ny665 := Aside0.mk hy665
      clear hy665
      have H' := Aside0.mk H
      clear H
      go_wp2_with (first | ((with_reducible refine gate_callee (f := 117) rfl ?_); refine goesC_ (some 20) Try.func117 #[.string a0, .int .i64 x1_1] ?_; (with_reducible refine (impl_ReadVar.calls k1 a0 x1_1 t662 t663 true _ A7.out).mono ?_); rintro e w' ⟨rfl, ⟨nd, rfl⟩⟩; refine ⟨_, rfl, ?_⟩) | ((with_reducible refine gate_builtin (b := .append) (xs := #[.tmp 26, .tmp 28]) rfl ?_); at_builtin; refine Kd.R_append (Kd.int .i64) (w0 := w) w.heap.size rfl (.tmp 26) (.tmp 28) 70 3 (.int .i64 0) 8 rfl Try.underlying70 info3 rfl (by decide) (by omega) u9 x9_1 t662 [.int .i64 t662] (fun _ => True) (fun _ => False) rfl rfl ?aP (fun _ hk => hk.elim) ?aF ?aO ?aB ?aS ?aL ?_; (case aP => exact rfl); (case aB => exact bl_); (case aF => exact (fun _ _ => trivial)); (case aO => exact (by (with_reducible repeat (first | apply Kd.R_alloc | apply Kd.R_drewN | apply Kd.R_drew)); exact HO_9.out)); (case aS => exact bls_); (case aL => have := LMc9.out; omega); intro v666 w10 ho hb hg hat; rw [← Ny665.out] at ho; replace HB := Aside0.mk (hb); have HO667 := Aside0.mk (ho); clear HO_9; clear ho hb hg hat))
      go_roundg k1
      case measure => have := HK1.out; omega
      case rel => exact ⟨(t663), (y665), (wrap64 (x15_1 + 1)), (by first | rfl | (simp; done) | (simp [*]; done)), (by first | rfl | (simp; done) | (simp [*]; done)), H', ⟨by have := HK1.out; omega⟩, ⟨by (with_reducible repeat (first | apply Kd.R_alloc | apply Kd.R_drewN | apply Kd.R_drew)); exact HO667.out⟩, ⟨bl_⟩⟩
     ·rw [if_neg c9] at H
      exact absurd H (by simp)
    ·replace c8 := Bool.eq_false_iff.mpr c8
     subst c8
     replace H := ite_f_ H
     simp only [Option.some.injEq, Prod.mk.injEq] at H
     obtain ⟨rfl, rfl, rfl⟩ := H
     go_wp2_with (first | ((with_reducible refine gate_callee (f := 117) rfl ?_); refine goesC_ (some 20) Try.func117 #[.string a0, .int .i64 x1_1] ?_; (with_reducible refine (impl_ReadVar.calls k1 a0 x1_1 t662 t663 false _ A7.out).mono ?_); rintro e w' ⟨rfl, ⟨nd, rfl⟩⟩; refine ⟨_, rfl, ?_⟩))
     go_ret3
     exact ⟨_, eq_, by first | exact Kd.R_nil _ _ _ _ _ | exact Kd.N_nil _ _ _ _ _ | exact Kd.V_nil _ _ _ _ _ | exact Kd.Q_nil _ _ _ _ _ | exact Kd.S_nil _ _ _ _ _, bl_⟩
   ·rw [if_neg c6] at H
    have c6b0 : decide (x15_1 < a2) = false := decide_eq_false c6
    clear c6
    simp only [Option.some.injEq, Prod.mk.injEq] at H
    obtain ⟨rfl, rfl, rfl⟩ := H
    go_wp2
    go_ret3
    exact ⟨_, eq_, by (with_reducible repeat (first | apply Kd.R_alloc | apply Kd.R_drewN | apply Kd.R_drew)); exact HO_9.out, bl_⟩
mutual
def impl_ReadPolicy.j0 : Nat → ByteArray → Int → Int → Bool → Option ((List (S105)) × Bool)
 | 0, _, _, _, _ => none
 | k + 1, x0, x4, x5, x22 => if x22 = true then (some (([] : List (S105)), false)) else (impl_ReadPolicy.l0 k x0 x5 x4 0 ([] : List (S105)))
def impl_ReadPolicy.l0 : Nat → ByteArray → Int → Int → Int → List (S105) → Option ((List (S105)) × Bool)
 | 0, _, _, _, _, _ => none
 | k + 1, x0, x5, x25, x26, x673000 => if x26 < x25 then ((impl_readVars.f k x0 x5 5).bind fun bt673 => (if bt673.2.2 = true then (if 0 < (bt673.1.length : Int) then (if 1 < (bt673.1.length : Int) then (if 2 < (bt673.1.length : Int) then (if 3 < (bt673.1.length : Int) then (if 4 < (bt673.1.length : Int) then (if x673000.length < 3518437208883 then (impl_ReadPolicy.l0 k x0 bt673.2.1 x25 (wrap64 (x26 + 1)) (x673000 ++ [(⟨rd bt673.1 0, (⟨rd bt673.1 1, rd bt673.1 2⟩ : S27), rd bt673.1 3, rd bt673.1 4⟩ : S105)])) else (none)) else (none)) else (none)) else (none)) else (none)) else (none)) else (some (([] : List (S105)), false)))) else (if x5 = (x0.size : Int) then ((impl_PolicyOk.f k x673000).bind fun t686 => (if t686 = true then (some (x673000, true)) else (some (([] : List (S105)), false)))) else (some (([] : List (S105)), false)))
end
def impl_ReadPolicy.f (k : Nat) (a0 : ByteArray) : Option ((List (S105)) × Bool) := (impl_ReadVar.f k a0 0).bind fun bt669 => (if bt669.2.2 = true then (impl_ReadPolicy.j0 k a0 bt669.1 bt669.2.1 (decide (bt669.1 > 40))) else (impl_ReadPolicy.j0 k a0 bt669.1 bt669.2.1 true))
def impl_ReadPolicy.T10 : Bool × List (List Nat × List Nat) := (true, [([], []), ([0], [0]), ([], []), ([2], [2]), ([3], [3]), ([], []), ([5], [5]), ([6], [6]), ([], []), ([8], [8]), ([9], [9]), ([7, 10], [7, 10]), ([], []), ([12], [12]), ([13], [13]), ([], []), ([15], [15]), ([16], [16]), ([4, 11, 14, 17], [4, 11, 14, 17]), ([18], [18]), ([1, 19], [1, 19]), ([0, 1, 2, 3, 4, 5, 6, 7, 8, 9, 10, 11, 12, 13, 14, 15, 16, 17, 18, 19, 20], []), ([21, 20, 20, 0, 1, 2, 3, 4, 5, 6, 7, 8, 9, 10, 11, 12, 13, 14, 15, 16, 17, 18, 19, 20], [20, 21])])
def impl_ReadPolicy.B10 : List Nat := [0, 1, 0, 4, 12, 0, 32, 96, 0, 256, 768, 2016, 0, 4096, 12288, 0, 32768, 98304, 262140, 524284, 1048575, 2097151, 4194303]
theorem impl_ReadPolicy.tab10 : rtab .any (opsOf Try.f56 10) = impl_ReadPolicy.T10 := by kernel_rfl
theorem impl_ReadPolicy.bits10 : waitsOk impl_ReadPolicy.T10.2 impl_ReadPolicy.B10 = true := by kernel_rfl
set_option maxHeartbeats 8000000 in
set_option maxRecDepth 100000 in
theorem impl_ReadPolicy.calls (k : Nat) (a0 : ByteArray) (r1 : List (S105)) (r2 : Bool) (w : World) (h : impl_ReadPolicy.f k a0 = some (r1, r2)) :
  Calls Try.prog 56 #[.string a0] w fun e w' => ∃ v0_ : Value, e = .returned (.tuple #[.agg #[v0_], .bool r2]) ∧ Kd.R k105 105 w' w.heap.size (fun _ => True) v0_ r1 ∧ Below w.heap.size w w' := by
 have hu39 := Try.underlying39
 have hu27 := Try.underlying27
 have hu105 := Try.underlying105
 have HB := Aside0.mk (Below.refl w.heap.size w)
 have H : ((impl_ReadVar.f k a0 0).bind fun bt669 => (if bt669.2.2 = true then (impl_ReadPolicy.j0 k a0 bt669.1 bt669.2.1 (decide (bt669.1 > 40))) else (impl_ReadPolicy.j0 k a0 bt669.1 bt669.2.1 true))) = some (r1, r2) := h
 clear h
 obtain ⟨⟨t669, t670, t671⟩, A2, H⟩ := bindE_ H
 replace H : (if t671 = true then (impl_ReadPolicy.j0 k a0 t669 t670 (decide (t669 > 40))) else (impl_ReadPolicy.j0 k a0 t669 t670 true)) = some (r1, r2) := H
 have HC3 := Aside0.mk H
 clear H
 go_enter Try.func56, Try.ntmps56
 go_upto_region 2 with (first | ((with_reducible refine gate_dst (N := 2) rfl ?_); refine box_event ?hg (N := 2) ?hd (cs := #[.slice none 0 0]) (t := 39) ?hr ?_; (case hd => rfl); (case hg => rfl); (case hr => first | (go_simp; done) | (go_simp; rfl)); intro gb668 hg w4 hbox hb; have BK668 := Aside0.mk (hbox); have GW668 := gs_ hg; have GE668 := gs_ hg; replace HB := hbs_ hb; clear hb hbox hg) | ((with_reducible refine gate_callee (f := 117) rfl ?_); refine goesC_ (some 13) Try.func117 #[.string a0, .int .i64 0] ?_; (with_reducible refine (impl_ReadVar.calls k a0 0 t669 t670 t671 _ A2.out).mono ?_); rintro e w' ⟨rfl, ⟨nd, rfl⟩⟩; refine ⟨_, rfl, ?_⟩))
 (try simp only [Act.put, List.setIfInBounds_toArray, List.set_cons_zero, List.set_cons_succ])
 go_cut [22] (fun v22 wc => ∃ (kq : Nat) (x22_2 : Bool), v22 = .bool x22_2 ∧ Aside0 (impl_ReadPolicy.j0 kq a0 t669 t670 x22_2 = some (r1, r2)) ∧ Aside0 (kq ≤ k) ∧ Aside0 (wc.heap[gb668]? = some (.cells #[(.slice none 0 0)] 39 (0, 0))) ∧ Aside0 (Below w.heap.size w wc))
 case first =>
  have H := HC3.out
  clear HC3
  by_cases c5 : t671 = true
  ·subst c5
   replace H := ite_t_ H
   have H' := Aside0.mk H
   clear H
   go_wp2
   go_meet
   case rel => exact ⟨_, (decide (t669 > 40)), (by first | rfl | (simp; done) | (simp [*]; done)), H', ⟨by first | omega | exact Nat.le_refl _⟩, ⟨bk_ BK668⟩, ⟨bl_⟩⟩
  ·replace c5 := Bool.eq_false_iff.mpr c5
   subst c5
   replace H := ite_f_ H
   have H' := Aside0.mk H
   clear H
   go_wp2
   go_meet
   case rel => exact ⟨_, (true), (by first | rfl | (simp; done) | (simp [*]; done)), H', ⟨by first | omega | exact Nat.le_refl _⟩, ⟨bk_ BK668⟩, ⟨bl_⟩⟩
 case rest =>
  clear HC3
  try clear c1
  try clear p2
  try clear c5
  obtain ⟨kq, x22_2, rfl, HA, HJ2, BK668, HB⟩ := hcut
  cases kq with
  | zero => exact absurd HA.out (by simp [impl_ReadPolicy.j0])
  | succ kj2 =>
   have H := HA.out
   clear HA
   simp only [impl_ReadPolicy.j0] at H
   by_cases c6 : x22_2 = true
   ·subst c6
    replace H := ite_t_ H
    simp only [Option.some.injEq, Prod.mk.injEq] at H
    obtain ⟨rfl, rfl⟩ := H
    have hcz7 := blk_cell BK668.out
    have hfz7 := blk_frozen BK668.out
    go_wp2
    refine bodyPost_ret (results_ct rfl _ _ gb668 39 #[.slice none 0 0] (0, 0) _ rfl (bk_ BK668) Try.underlying39 rfl (by kernel_rfl)) rfl ?_
    exact ⟨_, eq_, by first | exact Kd.R_nil _ _ _ _ _ | exact Kd.N_nil _ _ _ _ _ | exact Kd.V_nil _ _ _ _ _ | exact Kd.Q_nil _ _ _ _ _ | exact Kd.S_nil _ _ _ _ _, bl_⟩
   ·replace c6 := Bool.eq_false_iff.mpr c6
    subst c6
    replace H := ite_f_ H
    have H' := Aside0.mk H
    clear H
    go_wp2_with (first | ((with_reducible refine gate_dst (N := 7) rfl ?_); refine box_event ?hg (N := 7) ?hd (cs := #[.slice none 0 0]) (t := 39) ?hr ?_; (case hd => rfl); (case hg => rfl); (case hr => first | (go_simp; done) | (go_simp; rfl)); intro gb672 hg w8 hbox hb; have BK672 := Aside0.mk (hbox); have GW672 := gs_ hg; have GE672 := gs_ hg; replace HB := hbs_ hb; have NB668_672 := Aside0.mk ((by rw [hg]; exact Nat.ne_of_lt (blk_lt (g := gb668) (o := .cells #[.slice none 0 0] 39 (0, 0)) (bk_ BK668)) : gb668 ≠ gb672)); have NB672_668 := Aside0.mk ((by rw [hg]; exact Nat.ne_of_gt (blk_lt (g := gb668) (o := .cells #[.slice none 0 0] 39 (0, 0)) (bk_ BK668)) : gb672 ≠ gb668)); replace BK668 := bkb_ BK668 hb; clear hb hbox hg; have hnb9 := NB672_668.out; have hnc9 := NB668_672.out; have hcz10 := blk_cell BK672.out; have hfz10 := blk_frozen BK672.out))
    go_loopg [5, 26] kj2 (fun kq v5 v26 w' => ∃ (x5_2 : Int) (x26_2 : Int) (x673000_2 : List (S105)) (u673000 : Value), v5 = .int .i64 x5_2 ∧ v26 = .int .i64 x26_2 ∧ Aside0 (impl_ReadPolicy.l0 kq a0 x5_2 t669 x26_2 x673000_2 = some (r1, r2)) ∧ Aside0 (kq ≤ kj2) ∧ Aside0 (Kd.R k105 105 w' w.heap.size (fun _ => True) u673000 x673000_2) ∧ Aside0 (w'.heap[gb668]? = some (.cells #[(.slice none 0 0)] 39 (0, 0))) ∧ Aside0 (w'.heap[gb672]? = some (.cells #[u673000] 39 (0, 0))) ∧ Aside0 (Below w.heap.size w w'))
    case atStart => exact ⟨(t670), (0), (([] : List (S105))), (.slice none 0 0), (by first | rfl | (simp; done) | (simp [*]; done)), (by first | rfl | (simp; done) | (simp [*]; done)), H', ⟨Nat.le_refl _⟩, ⟨by first | exact Kd.R_nil _ _ _ _ _ | exact Kd.N_nil _ _ _ _ _ | exact Kd.V_nil _ _ _ _ _ | exact Kd.Q_nil _ _ _ _ _ | exact Kd.S_nil _ _ _ _ _⟩, ⟨bk_ BK668⟩, ⟨bk_ BK672⟩, ⟨bl_⟩⟩
    case round =>
     clear H'
     try clear c1
     try clear p2
     try clear c5
     try clear c6
     try clear c9
     try clear hcz10
     try clear hcz7
     try clear hfz10
     try clear hfz7
     try clear p2
     obtain ⟨x5_2, x26_2, x673000_2, u673000, rfl, rfl, HA, HK2, HO_673000, BK668, BK672, HB⟩ := hrel
     cases gk with
     | zero => exact absurd HA.out (by simp [impl_ReadPolicy.l0])
     | succ k2 =>
      have H := HA.out
      clear HA
      simp only [impl_ReadPolicy.l0] at H
      by_cases c11 : x26_2 < t669
      ·rw [if_pos c11] at H
       have c11b0 : decide (x26_2 < t669) = true := decide_eq_true c11
       clear c11
       obtain ⟨⟨t673, t674, t675⟩, A12, H⟩ := bindE_ H
       replace H : (if t675 = true then (if 0 < (t673.length : Int) then (if 1 < (t673.length : Int) then (if 2 < (t673.length : Int) then (if 3 < (t673.length : Int) then (if 4 < (t673.length : Int) then (if x673000_2.length < 3518437208883 then (impl_ReadPolicy.l0 k2 a0 t674 t669 (wrap64 (x26_2 + 1)) (x673000_2 ++ [(⟨rd t673 0, (⟨rd t673 1, rd t673 2⟩ : S27), rd t673 3, rd t673 4⟩ : S105)])) else (none)) else (none)) else (none)) else (none)) else (none)) else (none)) else (some (([] : List (S105)), false))) = some (r1, r2) := H
       by_cases c13 : t675 = true
       ·subst c13
        replace H := ite_t_ H
        by_cases c14 : 0 < (t673.length : Int)
        ·rw [if_pos c14] at H
         have c14b0 : decide (0 < (t673.length : Int)) = true := decide_eq_true c14
         have c14b1 : decide (0 < t673.length) = true := decide_eq_true (by omega)
         clear c14
         by_cases c15 : 1 < (t673.length : Int)
         ·rw [if_pos c15] at H
          have c15b0 : decide (1 < (t673.length : Int)) = true := decide_eq_true c15
          have c15b1 : decide (1 < t673.length) = true := decide_eq_true (by omega)
          clear c15
          by_cases c16 : 2 < (t673.length : Int)
          ·rw [if_pos c16] at H
           have c16b0 : decide (2 < (t673.length : Int)) = true := decide_eq_true c16
           have c16b1 : decide (2 < t673.length) = true := decide_eq_true (by omega)
           clear c16
           by_cases c17 : 3 < (t673.length : Int)
           ·rw [if_pos c17] at H
            have c17b0 : decide (3 < (t673.length : Int)) = true := decide_eq_true c17
            have c17b1 : decide (3 < t673.length) = true := decide_eq_true (by omega)
            clear c17
            by_cases c18 : 4 < (t673.length : Int)
            ·rw [if_pos c18] at H
             have c18b0 : decide (4 < (t673.length : Int)) = true := decide_eq_true c18
             have c18b1 : decide (4 < t673.length) = true := decide_eq_true (by omega)
             clear c18
             by_cases c19 : x673000_2.length < 3518437208883
             ·rw [if_pos c19] at H
              have LMc19 := Aside0.mk c19
              clear c19
              obtain ⟨y683, hy683⟩ : ∃ y_ : List (S105), y_ = (x673000_2 ++ [(⟨rd t673 0, (⟨rd t673 1, rd t673 2⟩ : S27), rd t673 3, rd t673 4⟩ : S105)]) := ⟨_, rfl⟩
              replace H : (impl_ReadPolicy.l0 k2 a0 t674 t669 (wrap64 (x26_2 + 1)) y683) = some (r1, r2) := by first | (rw [hy683]; with_reducible exact H) | (have H2_ := (Option.bind_some _ _).symm.trans H; rw [hy683]; with_reducible exact H2_) | (have H2_ := (Option.bind_some _ _).symm.trans H; with_reducible exact H2_) | with_reducible exact H | (rw [hy683]; exact H) | exact H
              have Ny683 := Aside0.mk hy683
              clear hy683
              have H' := Aside0.mk H
              clear H
              try go_wp2_with (first | ((with_reducible refine gate_callee (f := 118) rfl ?_); refine goesC_ (some 31) Try.func118 #[.string a0, .int .i64 x5_2, .int .i64 5] ?_; (with_reducible refine (impl_readVars.calls k2 a0 x5_2 5 t673 t674 true _ A12.out).mono ?_); rintro e w20 ⟨v676, rfl, ho0, hb⟩; refine ⟨_, rfl, ?_⟩; replace HO_673000 := Aside0.mk (Kd.R_below (by (with_reducible repeat (first | apply Kd.R_alloc | apply Kd.R_drewN | apply Kd.R_drew)); exact HO_673000.out) hb); have HO677 := Aside0.mk (Kd.R_lower ho0 bls_); replace BK668 := bkb_ BK668 hb; replace BK672 := bkb_ BK672 hb; replace HB := hbs_ hb; (try clear hb); (try clear hb2); (try clear hk); (try clear hi); (try clear ho0)))
              replace HO_673000 := Aside0.mk (Kd.R_drew HO_673000.out)
              replace HO677 := Aside0.mk (Kd.R_drew HO677.out)
              replace BK668 := Aside0.mk (blk_drew BK668.out)
              replace BK672 := Aside0.mk (blk_drew BK672.out)
              replace HB := Aside0.mk (below_drew1 HB.out)
              obtain ⟨Ao22, co22, eo22⟩ := Kd.R_slice HO677.out
              (first | subst eo22 | (injection eo22 with f1_ f2_ f3_; have f4_ := f1_.symm; have f5_ := f3_.symm; clear f1_ f2_ f3_; subst f4_; subst f5_))
              have p678 : 0 ≤ (0 : Int) := (by omega)
              have q678 : 0 < (t673.length : Int) := of_decide_eq_true (by first | (with_reducible assumption) | assumption)
              obtain ⟨ad678, e678, hx678_0⟩ := Kd.at_int (Kd.R_reads' HO677.out).2.2 0 p678 q678
              cases e678
              have qi678 : (0 < t673.length) = True := eq_true (by omega)
              (try rw [show ((0 : Int)).toNat = 0 from rfl] at hx678_0)
              (try rw [Addr.add_zero'] at hx678_0)
              replace p678 := eq_true p678
              replace q678 := eq_true q678
              have p679 : 0 ≤ (1 : Int) := (by omega)
              have q679 : 1 < (t673.length : Int) := of_decide_eq_true (by first | (with_reducible assumption) | assumption)
              obtain ⟨ad679, e679, hx679_0⟩ := Kd.at_int (Kd.R_reads' HO677.out).2.2 1 p679 q679
              obtain rfl : ad678 = ad679 := (by injection e679)
              (try simp only [show (1 : Int).toNat = 1 from rfl, Nat.reduceMul, Nat.reduceEqDiff, Go.Addr.add, ↓reduceIte] at hx679_0)
              have qi679 : (1 < t673.length) = True := eq_true (by omega)
              (try rw [show ((1 : Int)).toNat = 1 from rfl] at hx679_0)
              replace p679 := eq_true p679
              replace q679 := eq_true q679
              have p680 : 0 ≤ (2 : Int) := (by omega)
              have q680 : 2 < (t673.length : Int) := of_decide_eq_true (by first | (with_reducible assumption) | assumption)
              obtain ⟨ad680, e680, hx680_0⟩ := Kd.at_int (Kd.R_reads' HO677.out).2.2 2 p680 q680
              obtain rfl : ad678 = ad680 := (by injection e680)
              (try simp only [show (2 : Int).toNat = 2 from rfl, Nat.reduceMul, Nat.reduceEqDiff, Go.Addr.add, ↓reduceIte] at hx680_0)
              have qi680 : (2 < t673.length) = True := eq_true (by omega)
              (try rw [show ((2 : Int)).toNat = 2 from rfl] at hx680_0)
              replace p680 := eq_true p680
              replace q680 := eq_true q680
              have p681 : 0 ≤ (3 : Int) := (by omega)
              have q681 : 3 < (t673.length : Int) := of_decide_eq_true (by first | (with_reducible assumption) | assumption)
              obtain ⟨ad681, e681, hx681_0⟩ := Kd.at_int (Kd.R_reads' HO677.out).2.2 3 p681 q681
              obtain rfl : ad678 = ad681 := (by injection e681)
              (try simp only [show (3 : Int).toNat = 3 from rfl, Nat.reduceMul, Nat.reduceEqDiff, Go.Addr.add, ↓reduceIte] at hx681_0)
              have qi681 : (3 < t673.length) = True := eq_true (by omega)
              (try rw [show ((3 : Int)).toNat = 3 from rfl] at hx681_0)
              replace p681 := eq_true p681
              replace q681 := eq_true q681
              have p682 : 0 ≤ (4 : Int) := (by omega)
              have q682 : 4 < (t673.length : Int) := of_decide_eq_true (by first | (with_reducible assumption) | assumption)
              obtain ⟨ad682, e682, hx682_0⟩ := Kd.at_int (Kd.R_reads' HO677.out).2.2 4 p682 q682
              obtain rfl : ad678 = ad682 := (by injection e682)
              (try simp only [show (4 : Int).toNat = 4 from rfl, Nat.reduceMul, Nat.reduceEqDiff, Go.Addr.add, ↓reduceIte] at hx682_0)
              have qi682 : (4 < t673.length) = True := eq_true (by omega)
              (try rw [show ((4 : Int)).toNat = 4 from rfl] at hx682_0)
              replace p682 := eq_true p682
              replace q682 := eq_true q682
              refine start_ (n := 23) (S := fun w' => w'.cell? ⟨gb672, 0, none⟩ = some (u673000) ∧ w'.cell? ad678 = some (.int .i64 (rd t673 0)) ∧ w'.cell? ⟨ad678.block, ad678.off + 1, none⟩ = some (.int .i64 (rd t673 1)) ∧ w'.cell? ⟨ad678.block, ad678.off + 2, none⟩ = some (.int .i64 (rd t673 2)) ∧ w'.cell? ⟨ad678.block, ad678.off + 3, none⟩ = some (.int .i64 (rd t673 3)) ∧ w'.cell? ⟨ad678.block, ad678.off + 4, none⟩ = some (.int .i64 (rd t673 4))) (ds := [20, 22]) #[false, false, false, false, false, false, false, false, false, false, false, false, false, false, false, false, false, false, false, false, false, false, false] (by kernel_rfl) rfl rfl ⟨(blk_cell BK672.out 0).trans rfl, hx678_0, hx679_0, hx680_0, hx681_0, hx682_0⟩ (fun hHeld => ?_); refine with_tabW impl_ReadPolicy.tab10 impl_ReadPolicy.bits10 (fun HT_ HW_ => ?_)
              generalize w20.drew = w21 at HO_673000 HO677 BK668 BK672 HB hx678_0 hx679_0 hx680_0 hx681_0 hx682_0 hHeld ⊢
              refine pureZ_ (i := 0) (some 38) #[true, false, false, false, false, false, false, false, false, false, false, false, false, false, false, false, false, false, false, false, false, false, false] (any_of HT_.out (by kernel_rfl)) ?_
              refine pureZ_ (i := 2) (some 40) #[true, false, true, false, false, false, false, false, false, false, false, false, false, false, false, false, false, false, false, false, false, false, false] (any_of HT_.out (by kernel_rfl)) ?_
              refine pureZ_ (i := 3) (some 41) #[true, false, true, true, false, false, false, false, false, false, false, false, false, false, false, false, false, false, false, false, false, false, false] (any_of HT_.out (by kernel_rfl)) ?_
              refine pureZ_ (i := 5) (some 43) #[true, false, true, true, false, true, false, false, false, false, false, false, false, false, false, false, false, false, false, false, false, false, false] (any_of HT_.out (by kernel_rfl)) ?_
              refine pureZ_ (i := 6) (some 44) #[true, false, true, true, false, true, true, false, false, false, false, false, false, false, false, false, false, false, false, false, false, false, false] (any_of HT_.out (by kernel_rfl)) ?_
              refine pureZ_ (i := 8) (some 46) #[true, false, true, true, false, true, true, false, true, false, false, false, false, false, false, false, false, false, false, false, false, false, false] (any_of HT_.out (by kernel_rfl)) ?_
              refine pureZ_ (i := 9) (some 47) #[true, false, true, true, false, true, true, false, true, true, false, false, false, false, false, false, false, false, false, false, false, false, false] (any_of HT_.out (by kernel_rfl)) ?_
              refine pureZ_ (i := 12) (some 50) #[true, false, true, true, false, true, true, false, true, true, false, false, true, false, false, false, false, false, false, false, false, false, false] (any_of HT_.out (by kernel_rfl)) ?_
              refine pureZ_ (i := 13) (some 51) #[true, false, true, true, false, true, true, false, true, true, false, false, true, true, false, false, false, false, false, false, false, false, false] (any_of HT_.out (by kernel_rfl)) ?_
              refine pureZ_ (i := 15) (some 53) #[true, false, true, true, false, true, true, false, true, true, false, false, true, true, false, true, false, false, false, false, false, false, false] (any_of HT_.out (by kernel_rfl)) ?_
              refine pureZ_ (i := 16) (some 54) #[true, false, true, true, false, true, true, false, true, true, false, false, true, true, false, true, true, false, false, false, false, false, false] (any_of HT_.out (by kernel_rfl)) ?_
              refine takeZ_ (i := 1) (some 39) #[true, true, true, true, false, true, true, false, true, true, false, false, true, true, false, true, true, false, false, false, false, false, false] (take_ofW HT_.out HW_.out (by kernel_rfl)) hHeld ?_
              refine takeZ_ (i := 4) (some 42) #[true, true, true, true, true, true, true, false, true, true, false, false, true, true, false, true, true, false, false, false, false, false, false] (take_ofW HT_.out HW_.out (by kernel_rfl)) hHeld ?_
              refine takeZ_ (i := 7) (some 45) #[true, true, true, true, true, true, true, true, true, true, false, false, true, true, false, true, true, false, false, false, false, false, false] (take_ofW HT_.out HW_.out (by kernel_rfl)) hHeld ?_
              refine takeZ_ (i := 10) (some 48) #[true, true, true, true, true, true, true, true, true, true, true, false, true, true, false, true, true, false, false, false, false, false, false] (take_ofW HT_.out HW_.out (by kernel_rfl)) hHeld ?_
              refine pureZ_ (i := 11) (some 49) #[true, true, true, true, true, true, true, true, true, true, true, true, true, true, false, true, true, false, false, false, false, false, false] (any_of HT_.out (by kernel_rfl)) ?_
              refine takeZ_ (i := 14) (some 52) #[true, true, true, true, true, true, true, true, true, true, true, true, true, true, true, true, true, false, false, false, false, false, false] (take_ofW HT_.out HW_.out (by kernel_rfl)) hHeld ?_
              refine takeZ_ (i := 17) (some 55) #[true, true, true, true, true, true, true, true, true, true, true, true, true, true, true, true, true, true, false, false, false, false, false] (take_ofW HT_.out HW_.out (by kernel_rfl)) hHeld ?_
              refine pureZ_ (i := 18) (some 56) #[true, true, true, true, true, true, true, true, true, true, true, true, true, true, true, true, true, true, true, false, false, false, false] (any_of HT_.out (by kernel_rfl)) ?_
              refine one_ (i := 19) (N := some 57) #[true, true, true, true, true, true, true, true, true, true, true, true, true, true, true, true, true, true, true, true, false, false, false] rfl rfl (one_of HT_.out (by kernel_rfl)) (by decide) (fun K hK => ?_)
              refine value_ (w1 := ?_) (v := ?_) (by rfl) rfl ?_ ?_
              rotate_left 2
              ·go_simp
               constructor
               ·rfl
               ·rfl
              refine hK.out _ _ ⟨(blk_cell (blk_alloc BK672.out _) 0).trans rfl, (World.cell?_alloc_lt _ _ _ (World.block_lt_of_cell? _ _ (hHeld.2.1))).trans (hHeld.2.1), (World.cell?_alloc_lt _ _ _ (World.block_lt_of_cell? _ _ (hHeld.2.2.1))).trans (hHeld.2.2.1), (World.cell?_alloc_lt _ _ _ (World.block_lt_of_cell? _ _ (hHeld.2.2.2.1))).trans (hHeld.2.2.2.1), (World.cell?_alloc_lt _ _ _ (World.block_lt_of_cell? _ _ (hHeld.2.2.2.2.1))).trans (hHeld.2.2.2.2.1), (World.cell?_alloc_lt _ _ _ (World.block_lt_of_cell? _ _ (hHeld.2.2.2.2.2))).trans (hHeld.2.2.2.2.2)⟩ (fun hHeld => ?_)
              clear hK K
              refine norm_ (a' := ?_) ?_ ?_
              rotate_left
              ·show Act.put _ (some 57) _ = _
               simp only [Act.put, List.setIfInBounds_toArray, List.set_cons_zero, List.set_cons_succ, i64_w, i32_w]
               rfl
              refine last_ (i := 20) (N := some 58) #[true, true, true, true, true, true, true, true, true, true, true, true, true, true, true, true, true, true, true, true, true, false, false] rfl rfl (one_of HT_.out (by kernel_rfl)) (by decide) (fun K hK => ?_)
              refine Kd.R_append_step k105 (w0 := w) w.heap.size (by rfl) (.tmp 39) (.tmp 57) 37 105 (.agg #[(.int .i64 0), (.int .i64 0), (.int .i64 0), (.int .i64 0), (.int .i64 0)]) 40 rfl Try.underlying37 info105 rfl (by decide) (by omega) u673000 x673000_2 (⟨rd t673 0, (⟨rd t673 1, rd t673 2⟩ : S27), rd t673 3, rd t673 4⟩ : S105) [.int .i64 (rd t673 0), .int .i64 (rd t673 1), .int .i64 (rd t673 2), .int .i64 (rd t673 3), .int .i64 (rd t673 4)] (fun _ => True) (fun _ => False) rfl rfl ?aP (fun _ hk => hk.elim) ?aF ?aO ?aB ?aS ?aL ?_
              (case aP => exact k105_mkM _ _ _ (⟨rd t673 0, (⟨rd t673 1, rd t673 2⟩ : S27), rd t673 3, rd t673 4⟩ : S105))
              (case aB => exact bl_)
              (case aF => exact (fun _ _ => trivial))
              (case aO => exact (by (with_reducible repeat (first | apply Kd.R_alloc | apply Kd.R_drewN | apply Kd.R_drew)); exact HO_673000.out))
              (case aS => exact bls_)
              (case aL => have := LMc19.out; omega)
              intro v684 w23 ho hb hg hat
              rw [← Ny683.out] at ho
              replace BK668 := Aside0.mk (blk_grown (g := gb668) (o := .cells #[.slice none 0 0] 39 (0, 0)) (bk_ BK668) hg (Kd.R_ne HO_673000.out BK668.out (by decide)))
              replace BK672 := Aside0.mk (blk_grown (g := gb672) (o := .cells #[u673000] 39 (0, 0)) (bk_ BK672) hg (Kd.R_ne HO_673000.out BK672.out (by decide)))
              replace HO677 := Aside0.mk (Kd.R_over' (by (with_reducible repeat (first | apply Kd.R_alloc | apply Kd.R_drewN | apply Kd.R_drew)); exact HO677.out) (Kd.R_typed (by (with_reducible repeat (first | apply Kd.R_alloc | apply Kd.R_drewN | apply Kd.R_drew)); exact HO_673000.out)) (by decide) hg)
              replace HB := Aside0.mk (hb)
              have HO685 := Aside0.mk (ho)
              clear HO_673000
              clear ho hb hg hat
              obtain ⟨Ao24, co24, eo24⟩ := Kd.R_slice HO685.out
              (first | subst eo24 | (injection eo24 with f1_ f2_ f3_; have f4_ := f1_.symm; have f5_ := f3_.symm; clear f1_ f2_ f3_; subst f4_; subst f5_))
              refine hK.out _ _ ?_
              clear hK K
              refine norm_ (a' := ?_) ?_ ?_
              rotate_left
              ·show Act.put _ (some 58) _ = _
               simp only [Act.put, List.setIfInBounds_toArray, List.set_cons_zero, List.set_cons_succ, i64_w, i32_w]
               rfl
              refine pureZ_ (i := 21) (some 59) #[true, true, true, true, true, true, true, true, true, true, true, true, true, true, true, true, true, true, true, true, true, true, false] (any_of HT_.out (by kernel_rfl)) ?_
              refine last_ (i := 22) (N := none) #[true, true, true, true, true, true, true, true, true, true, true, true, true, true, true, true, true, true, true, true, true, true, true] rfl rfl (one_of HT_.out (by kernel_rfl)) (by decide) (fun K hK => ?_)
              have hs25 : w23.cell? ⟨gb672, 0, none⟩ = some (u673000) := (blk_cell BK672.out 0).trans rfl
              have hfs25 := blk_frozen BK672.out 0
              have hns25_0 := NB668_672.out
              have hms25_0 := NB672_668.out
              refine skip_ (w1 := ?_) (by rfl) rfl ?_ ?_
              rotate_left
              ·go_simp
               rfl
              refine hK.out _ _ ?_
              clear hK K
              refine done_ (done_of HT_.out (by kernel_rfl)) ?_
              try go_wp2
              go_roundg k2
              case measure => have := HJ2.out; have := HK2.out; omega
              case rel => exact ⟨(t674), (wrap64 (x26_2 + 1)), (y683), (.slice Ao24 y683.length co24), (by first | rfl | (simp; done) | (simp [*]; done)), (by first | rfl | (simp; done) | (simp [*]; done)), H', ⟨by have := HJ2.out; have := HK2.out; omega⟩, ⟨by (with_reducible repeat (first | apply Kd.R_alloc | apply Kd.R_drewN | apply Kd.R_drew)); exact Kd.R_mono (Kd.R_far (p := ⟨gb672, 0, none⟩) (Kd.R_types HO685.out BK672.out (by decide)) (fun _ hk => hk.2) (.slice Ao24 y683.length co24)) (fun _ hk => trivial)⟩, ⟨bk_ BK668⟩, ⟨bk_ BK672⟩, ⟨bl_⟩⟩
             ·rw [if_neg c19] at H
              exact absurd H (by simp)
            ·rw [if_neg c18] at H
             exact absurd H (by simp)
           ·rw [if_neg c17] at H
            exact absurd H (by simp)
          ·rw [if_neg c16] at H
           exact absurd H (by simp)
         ·rw [if_neg c15] at H
          exact absurd H (by simp)
        ·rw [if_neg c14] at H
         exact absurd H (by simp)
       ·replace c13 := Bool.eq_false_iff.mpr c13
        subst c13
        replace H := ite_f_ H
        simp only [Option.some.injEq, Prod.mk.injEq] at H
        obtain ⟨rfl, rfl⟩ := H
        go_wp2_with (first | ((with_reducible refine gate_callee (f := 118) rfl ?_); refine goesC_ (some 31) Try.func118 #[.string a0, .int .i64 x5_2, .int .i64 5] ?_; (with_reducible refine (impl_readVars.calls k2 a0 x5_2 5 t673 t674 false _ A12.out).mono ?_); rintro e w26 ⟨v676, rfl, ho0, hb⟩; refine ⟨_, rfl, ?_⟩; replace HO_673000 := Aside0.mk (Kd.R_below (by (with_reducible repeat (first | apply Kd.R_alloc | apply Kd.R_drewN | apply Kd.R_drew)); exact HO_673000.out) hb); have HO677 := Aside0.mk (Kd.R_lower ho0 bls_); replace BK668 := bkb_ BK668 hb; replace BK672 := bkb_ BK672 hb; replace HB := hbs_ hb; (try clear hb); (try clear hb2); (try clear hk); (try clear hi); (try clear ho0); have hnb27 := NB668_672.out; have hnc27 := NB672_668.out; have hcz28 := blk_cell BK668.out; have hfz28 := blk_frozen BK668.out))
        refine bodyPost_ret (results_ct rfl _ _ gb668 39 #[.slice none 0 0] (0, 0) _ rfl (bk_ BK668) Try.underlying39 rfl (by kernel_rfl)) rfl ?_
        exact ⟨_, eq_, by first | exact Kd.R_nil _ _ _ _ _ | exact Kd.N_nil _ _ _ _ _ | exact Kd.V_nil _ _ _ _ _ | exact Kd.Q_nil _ _ _ _ _ | exact Kd.S_nil _ _ _ _ _, bl_⟩
      ·rw [if_neg c11] at H
       have c11b0 : decide (x26_2 < t669) = false := decide_eq_false c11
       clear c11
       by_cases c29 : x5_2 = (a0.size : Int)
       ·rw [if_pos c29] at H
        have c29b0 : (x5_2 == (a0.size : Int)) = true := beq_iff_eq.mpr c29
        have c29b1 : (x5_2 != (a0.size : Int)) = false := bne_eq_false_iff_eq.mpr c29
        clear c29
        obtain ⟨t686, A30, H⟩ := bindE_ H
        by_cases c31 : t686 = true
        ·subst c31
         replace H := ite_t_ H
         simp only [Option.some.injEq, Prod.mk.injEq] at H
         obtain ⟨rfl, rfl⟩ := H
         have hnb32 := NB672_668.out
         have hnc32 := NB668_672.out
         have hcz33 := blk_cell BK672.out
         have hfz33 := blk_frozen BK672.out
         obtain ⟨Ao34, co34, eo34⟩ := Kd.R_slice HO_673000.out
         subst eo34
         go_wp2_with (first | (go_at_call 21; (with_reducible refine (impl_PolicyOk.calls k2 _ _ x673000_2 true _ ?side1 ?side2 A30.out).mono ?_); (case side1 => repeat (first | exact (Kd.R_reads' HO_673000.out).2.2 | (with_reducible refine Kd.C_alloc ?_ _) | (with_reducible refine Kd.C_drewN ?_ _) | (with_reducible refine Kd.C_drew ?_))); (case side2 => exact (Kd.R_reads' HO_673000.out).2.1); rintro e w35 ⟨rfl, hb⟩; replace HO_673000 := Aside0.mk (Kd.R_below (by (with_reducible repeat (first | apply Kd.R_alloc | apply Kd.R_drewN | apply Kd.R_drew)); exact HO_673000.out) hb); replace BK668 := bkb_ BK668 hb; replace BK672 := bkb_ BK672 hb; replace HB := hbs_ hb; clear hb; have hcz36 := blk_cell BK672.out; have hfz36 := blk_frozen BK672.out; have hcz37 := blk_cell BK668.out; have hfz37 := blk_frozen BK668.out))
         refine bodyPost_ret (results_ct rfl _ _ gb668 39 #[.slice Ao34 x673000_2.length co34] (0, 0) _ rfl (bk_ BK668) Try.underlying39 rfl (by kernel_rfl)) rfl ?_
         exact ⟨_, eq_, by (with_reducible repeat (first | apply Kd.R_alloc | apply Kd.R_drewN | apply Kd.R_drew)); exact Kd.R_mono (Kd.R_far (p := ⟨gb668, 0, none⟩) (Kd.R_types HO_673000.out BK668.out (by decide)) (fun _ hk => hk.2) (.slice Ao34 x673000_2.length co34)) (fun _ hk => trivial), bl_⟩
        ·replace c31 := Bool.eq_false_iff.mpr c31
         subst c31
         replace H := ite_f_ H
         simp only [Option.some.injEq, Prod.mk.injEq] at H
         obtain ⟨rfl, rfl⟩ := H
         have hnb38 := NB672_668.out
         have hnc38 := NB668_672.out
         have hcz39 := blk_cell BK672.out
         have hfz39 := blk_frozen BK672.out
         obtain ⟨Ao40, co40, eo40⟩ := Kd.R_slice HO_673000.out
         subst eo40
         go_wp2_with (first | (go_at_call 21; (with_reducible refine (impl_PolicyOk.calls k2 _ _ x673000_2 false _ ?side1 ?side2 A30.out).mono ?_); (case side1 => repeat (first | exact (Kd.R_reads' HO_673000.out).2.2 | (with_reducible refine Kd.C_alloc ?_ _) | (with_reducible refine Kd.C_drewN ?_ _) | (with_reducible refine Kd.C_drew ?_))); (case side2 => exact (Kd.R_reads' HO_673000.out).2.1); rintro e w41 ⟨rfl, hb⟩; replace HO_673000 := Aside0.mk (Kd.R_below (by (with_reducible repeat (first | apply Kd.R_alloc | apply Kd.R_drewN | apply Kd.R_drew)); exact HO_673000.out) hb); replace BK668 := bkb_ BK668 hb; replace BK672 := bkb_ BK672 hb; replace HB := hbs_ hb; clear hb; have hcz42 := blk_cell BK668.out; have hfz42 := blk_frozen BK668.out))
         refine bodyPost_ret (results_ct rfl _ _ gb668 39 #[.slice none 0 0] (0, 0) _ rfl (bk_ BK668) Try.underlying39 rfl (by kernel_rfl)) rfl ?_
         exact ⟨_, eq_, by first | exact Kd.R_nil _ _ _ _ _ | exact Kd.N_nil _ _ _ _ _ | exact Kd.V_nil _ _ _ _ _ | exact Kd.Q_nil _ _ _ _ _ | exact Kd.S_nil _ _ _ _ _, bl_⟩
       ·rw [if_neg c29] at H
        have c29b0 : (x5_2 == (a0.size : Int)) = false := beq_eq_false_iff_ne.mpr c29
        have c29b1 : (x5_2 != (a0.size : Int)) = true := bne_iff_ne.mpr c29
        simp only [Option.some.injEq, Prod.mk.injEq] at H
        obtain ⟨rfl, rfl⟩ := H
        have hnb43 := NB668_672.out
        have hnc43 := NB672_668.out
        have hcz44 := blk_cell BK668.out
        have hfz44 := blk_frozen BK668.out
        go_wp2
        refine bodyPost_ret (results_ct rfl _ _ gb668 39 #[.slice none 0 0] (0, 0) _ rfl (bk_ BK668) Try.underlying39 rfl (by kernel_rfl)) rfl ?_
        exact ⟨_, eq_, by first | exact Kd.R_nil _ _ _ _ _ | exact Kd.N_nil _ _ _ _ _ | exact Kd.V_nil _ _ _ _ _ | exact Kd.Q_nil _ _ _ _ _ | exact Kd.S_nil _ _ _ _ _, bl_⟩
def laws_heldPolNodeS.l0 : Nat → List (S105) → Int → Int → Option (Int)
 | 0, _, _, _ => none
 | k + 1, x0, x1, x5 => if x5 < (x0.length : Int) then (if 0 ≤ x5 then (if ((rd_T105 x0 x5).f0) = x1 then (if ((rd_T105 x0 x5).f1.f0) = (wrap64 (x1 + 1)) then (if ((rd_T105 x0 x5).f1.f1) = (wrap64 ((wrap64 (x1 + 1)) + 1)) then (if ((rd_T105 x0 x5).f2) = (wrap64 ((wrap64 ((wrap64 (x1 + 1)) + 1)) + 1)) then (if ((rd_T105 x0 x5).f3) = (wrap64 ((wrap64 ((wrap64 ((wrap64 (x1 + 1)) + 1)) + 1)) + 1)) then (laws_heldPolNodeS.l0 k x0 (wrap64 ((wrap64 ((wrap64 ((wrap64 ((wrap64 (x1 + 1)) + 1)) + 1)) + 1)) + 1)) (wrap64 (x5 + 1))) else (some (-1))) else (some (-1))) else (some (-1))) else (some (-1))) else (some (-1))) else (none)) else (some x1)
def laws_heldPolNodeS.f (k : Nat) (l0 : List (S105)) (a1 : Int) : Option (Int) := laws_heldPolNodeS.l0 k l0 a1 0
set_option maxHeartbeats 8000000 in
set_option maxRecDepth 100000 in
theorem laws_heldPolNodeS.calls (k : Nat) (A0 : Option Addr) (c0 : Nat) (l0 : List (S105)) (a1 : Int) (r : Int) (w : World) (hr0 : Kd.C k105 w A0 l0.length l0) (hc0 : l0.length ≤ c0) (h : laws_heldPolNodeS.f k l0 a1 = some r) :
  Calls Try.prog 119 #[.slice A0 l0.length c0, .int .i64 a1] w fun e w' => e = .returned (.int .i64 r) ∧ Drawn0 w w' := by
 have HR0 := Aside0.mk hr0
 have HC0 := Aside0.mk hc0
 clear hr0 hc0
 have H : (laws_heldPolNodeS.l0 k l0 a1 0) = some r := h
 clear h
 have H' := Aside0.mk H
 clear H
 go_enter Try.func119, Try.ntmps119
 go_wp2
 go_loopg [1, 5] k (fun kq v1 v5 w' => ∃ (x1_1 : Int) (x5_1 : Int), v1 = .int .i64 x1_1 ∧ v5 = .int .i64 x5_1 ∧ Aside0 (laws_heldPolNodeS.l0 kq l0 x1_1 x5_1 = some r) ∧ Aside0 (kq ≤ k) ∧ Drawn0 w w')
 case atStart => exact ⟨(a1), (0), (by first | rfl | (simp; done) | (simp [*]; done)), (by first | rfl | (simp; done) | (simp [*]; done)), H', ⟨Nat.le_refl _⟩, by repeat (first | exact Drawn0.refl _ | apply Drawn0.step)⟩
 case round =>
  clear H'
  try clear c1
  try clear p2
  obtain ⟨x1_1, x5_1, rfl, rfl, HA, HK1, ⟨m1, rfl⟩⟩ := hrel
  cases gk with
  | zero => exact absurd HA.out (by simp [laws_heldPolNodeS.l0])
  | succ k1 =>
   have H := HA.out
   clear HA
   simp only [laws_heldPolNodeS.l0] at H
   by_cases c3 : x5_1 < (l0.length : Int)
   ·rw [if_pos c3] at H
    have c3b0 : decide (x5_1 < (l0.length : Int)) = true := decide_eq_true c3
    clear c3
    by_cases c4 : 0 ≤ x5_1
    ·rw [if_pos c4] at H
     have c4b0 : decide (0 ≤ x5_1) = true := decide_eq_true c4
     clear c4
     by_cases c5 : ((rd_T105 l0 x5_1).f0) = x1_1
     ·rw [if_pos c5] at H
      have c5b0 : (((rd_T105 l0 x5_1).f0) == x1_1) = true := beq_iff_eq.mpr c5
      have c5b1 : (((rd_T105 l0 x5_1).f0) != x1_1) = false := bne_eq_false_iff_eq.mpr c5
      clear c5
      by_cases c6 : ((rd_T105 l0 x5_1).f1.f0) = (wrap64 (x1_1 + 1))
      ·rw [if_pos c6] at H
       have c6b0 : (((rd_T105 l0 x5_1).f1.f0) == (wrap64 (x1_1 + 1))) = true := beq_iff_eq.mpr c6
       have c6b1 : (((rd_T105 l0 x5_1).f1.f0) != (wrap64 (x1_1 + 1))) = false := bne_eq_false_iff_eq.mpr c6
       clear c6
       by_cases c7 : ((rd_T105 l0 x5_1).f1.f1) = (wrap64 ((wrap64 (x1_1 + 1)) + 1))
       ·rw [if_pos c7] at H
        have c7b0 : (((rd_T105 l0 x5_1).f1.f1) == (wrap64 ((wrap64 (x1_1 + 1)) + 1))) = true := beq_iff_eq.mpr c7
        have c7b1 : (((rd_T105 l0 x5_1).f1.f1) != (wrap64 ((wrap64 (x1_1 + 1)) + 1))) = false := bne_eq_false_iff_eq.mpr c7
        clear c7
        by_cases c8 : ((rd_T105 l0 x5_1).f2) = (wrap64 ((wrap64 ((wrap64 (x1_1 + 1)) + 1)) + 1))
        ·rw [if_pos c8] at H
         have c8b0 : (((rd_T105 l0 x5_1).f2) == (wrap64 ((wrap64 ((wrap64 (x1_1 + 1)) + 1)) + 1))) = true := beq_iff_eq.mpr c8
         have c8b1 : (((rd_T105 l0 x5_1).f2) != (wrap64 ((wrap64 ((wrap64 (x1_1 + 1)) + 1)) + 1))) = false := bne_eq_false_iff_eq.mpr c8
         clear c8
         by_cases c9 : ((rd_T105 l0 x5_1).f3) = (wrap64 ((wrap64 ((wrap64 ((wrap64 (x1_1 + 1)) + 1)) + 1)) + 1))
         ·rw [if_pos c9] at H
          have c9b0 : (((rd_T105 l0 x5_1).f3) == (wrap64 ((wrap64 ((wrap64 ((wrap64 (x1_1 + 1)) + 1)) + 1)) + 1))) = true := beq_iff_eq.mpr c9
          have c9b1 : (((rd_T105 l0 x5_1).f3) != (wrap64 ((wrap64 ((wrap64 ((wrap64 (x1_1 + 1)) + 1)) + 1)) + 1))) = false := bne_eq_false_iff_eq.mpr c9
          clear c9
          have H' := Aside0.mk H
          clear H
          have p687 : 0 ≤ (x5_1 : Int) := of_decide_eq_true (by first | (with_reducible assumption) | assumption)
          have q687 : x5_1 < (l0.length : Int) := of_decide_eq_true (by first | (with_reducible assumption) | assumption)
          obtain ⟨ad687, e687, hx687_0, hx687_1, hx687_2, hx687_3, hx687_4⟩ := at_T105 HR0.out x5_1 p687 q687
          cases e687
          replace p687 := eq_true p687
          replace q687 := eq_true q687
          have p688 : 0 ≤ (x5_1 : Int) := of_decide_eq_true (by first | (with_reducible assumption) | assumption)
          have q688 : x5_1 < (l0.length : Int) := of_decide_eq_true (by first | (with_reducible assumption) | assumption)
          obtain ⟨ad688, e688, hx688_0, hx688_1, hx688_2, hx688_3, hx688_4⟩ := at_T105 HR0.out x5_1 p688 q688
          obtain rfl : ad687 = ad688 := (by injection e688)
          replace p688 := eq_true p688
          replace q688 := eq_true q688
          have p689 : 0 ≤ (x5_1 : Int) := of_decide_eq_true (by first | (with_reducible assumption) | assumption)
          have q689 : x5_1 < (l0.length : Int) := of_decide_eq_true (by first | (with_reducible assumption) | assumption)
          obtain ⟨ad689, e689, hx689_0, hx689_1, hx689_2, hx689_3, hx689_4⟩ := at_T105 HR0.out x5_1 p689 q689
          obtain rfl : ad687 = ad689 := (by injection e689)
          replace p689 := eq_true p689
          replace q689 := eq_true q689
          have p690 : 0 ≤ (x5_1 : Int) := of_decide_eq_true (by first | (with_reducible assumption) | assumption)
          have q690 : x5_1 < (l0.length : Int) := of_decide_eq_true (by first | (with_reducible assumption) | assumption)
          obtain ⟨ad690, e690, hx690_0, hx690_1, hx690_2, hx690_3, hx690_4⟩ := at_T105 HR0.out x5_1 p690 q690
          obtain rfl : ad687 = ad690 := (by injection e690)
          replace p690 := eq_true p690
          replace q690 := eq_true q690
          have p691 : 0 ≤ (x5_1 : Int) := of_decide_eq_true (by first | (with_reducible assumption) | assumption)
          have q691 : x5_1 < (l0.length : Int) := of_decide_eq_true (by first | (with_reducible assumption) | assumption)
          obtain ⟨ad691, e691, hx691_0, hx691_1, hx691_2, hx691_3, hx691_4⟩ := at_T105 HR0.out x5_1 p691 q691
          obtain rfl : ad687 = ad691 := (by injection e691)
          replace p691 := eq_true p691
          replace q691 := eq_true q691
          go_wp2
          go_roundg k1
          case measure => have := HK1.out; omega
          case rel => exact ⟨(wrap64 ((wrap64 ((wrap64 ((wrap64 ((wrap64 (x1_1 + 1)) + 1)) + 1)) + 1)) + 1)), (wrap64 (x5_1 + 1)), (by first | rfl | (simp; done) | (simp [*]; done)), (by first | rfl | (simp; done) | (simp [*]; done)), H', ⟨by have := HK1.out; omega⟩, by repeat (first | exact Drawn0.refl _ | apply Drawn0.step)⟩
         ·rw [if_neg c9] at H
          have c9b0 : (((rd_T105 l0 x5_1).f3) == (wrap64 ((wrap64 ((wrap64 ((wrap64 (x1_1 + 1)) + 1)) + 1)) + 1))) = false := beq_eq_false_iff_ne.mpr c9
          have c9b1 : (((rd_T105 l0 x5_1).f3) != (wrap64 ((wrap64 ((wrap64 ((wrap64 (x1_1 + 1)) + 1)) + 1)) + 1))) = true := bne_iff_ne.mpr c9
          obtain rfl := Option.some.inj H
          have p687 : 0 ≤ (x5_1 : Int) := of_decide_eq_true (by first | (with_reducible assumption) | assumption)
          have q687 : x5_1 < (l0.length : Int) := of_decide_eq_true (by first | (with_reducible assumption) | assumption)
          obtain ⟨ad687, e687, hx687_0, hx687_1, hx687_2, hx687_3, hx687_4⟩ := at_T105 HR0.out x5_1 p687 q687
          cases e687
          replace p687 := eq_true p687
          replace q687 := eq_true q687
          have p688 : 0 ≤ (x5_1 : Int) := of_decide_eq_true (by first | (with_reducible assumption) | assumption)
          have q688 : x5_1 < (l0.length : Int) := of_decide_eq_true (by first | (with_reducible assumption) | assumption)
          obtain ⟨ad688, e688, hx688_0, hx688_1, hx688_2, hx688_3, hx688_4⟩ := at_T105 HR0.out x5_1 p688 q688
          obtain rfl : ad687 = ad688 := (by injection e688)
          replace p688 := eq_true p688
          replace q688 := eq_true q688
          have p689 : 0 ≤ (x5_1 : Int) := of_decide_eq_true (by first | (with_reducible assumption) | assumption)
          have q689 : x5_1 < (l0.length : Int) := of_decide_eq_true (by first | (with_reducible assumption) | assumption)
          obtain ⟨ad689, e689, hx689_0, hx689_1, hx689_2, hx689_3, hx689_4⟩ := at_T105 HR0.out x5_1 p689 q689
          obtain rfl : ad687 = ad689 := (by injection e689)
          replace p689 := eq_true p689
          replace q689 := eq_true q689
          have p690 : 0 ≤ (x5_1 : Int) := of_decide_eq_true (by first | (with_reducible assumption) | assumption)
          have q690 : x5_1 < (l0.length : Int) := of_decide_eq_true (by first | (with_reducible assumption) | assumption)
          obtain ⟨ad690, e690, hx690_0, hx690_1, hx690_2, hx690_3, hx690_4⟩ := at_T105 HR0.out x5_1 p690 q690
          obtain rfl : ad687 = ad690 := (by injection e690)
          replace p690 := eq_true p690
          replace q690 := eq_true q690
          have p691 : 0 ≤ (x5_1 : Int) := of_decide_eq_true (by first | (with_reducible assumption) | assumption)
          have q691 : x5_1 < (l0.length : Int) := of_decide_eq_true (by first | (with_reducible assumption) | assumption)
          obtain ⟨ad691, e691, hx691_0, hx691_1, hx691_2, hx691_3, hx691_4⟩ := at_T105 HR0.out x5_1 p691 q691
          obtain rfl : ad687 = ad691 := (by injection e691)
          replace p691 := eq_true p691
          replace q691 := eq_true q691
          go_wp2
          go_ret
          exact ⟨by first | rfl | (simp; done) | (simp [*]; done), by repeat (first | exact Drawn0.refl _ | apply Drawn0.step)⟩
        ·rw [if_neg c8] at H
         have c8b0 : (((rd_T105 l0 x5_1).f2) == (wrap64 ((wrap64 ((wrap64 (x1_1 + 1)) + 1)) + 1))) = false := beq_eq_false_iff_ne.mpr c8
         have c8b1 : (((rd_T105 l0 x5_1).f2) != (wrap64 ((wrap64 ((wrap64 (x1_1 + 1)) + 1)) + 1))) = true := bne_iff_ne.mpr c8
         obtain rfl := Option.some.inj H
         have p687 : 0 ≤ (x5_1 : Int) := of_decide_eq_true (by first | (with_reducible assumption) | assumption)
         have q687 : x5_1 < (l0.length : Int) := of_decide_eq_true (by first | (with_reducible assumption) | assumption)
         obtain ⟨ad687, e687, hx687_0, hx687_1, hx687_2, hx687_3, hx687_4⟩ := at_T105 HR0.out x5_1 p687 q687
         cases e687
         replace p687 := eq_true p687
         replace q687 := eq_true q687
         have p688 : 0 ≤ (x5_1 : Int) := of_decide_eq_true (by first | (with_reducible assumption) | assumption)
         have q688 : x5_1 < (l0.length : Int) := of_decide_eq_true (by first | (with_reducible assumption) | assumption)
         obtain ⟨ad688, e688, hx688_0, hx688_1, hx688_2, hx688_3, hx688_4⟩ := at_T105 HR0.out x5_1 p688 q688
         obtain rfl : ad687 = ad688 := (by injection e688)
         replace p688 := eq_true p688
         replace q688 := eq_true q688
         have p689 : 0 ≤ (x5_1 : Int) := of_decide_eq_true (by first | (with_reducible assumption) | assumption)
         have q689 : x5_1 < (l0.length : Int) := of_decide_eq_true (by first | (with_reducible assumption) | assumption)
         obtain ⟨ad689, e689, hx689_0, hx689_1, hx689_2, hx689_3, hx689_4⟩ := at_T105 HR0.out x5_1 p689 q689
         obtain rfl : ad687 = ad689 := (by injection e689)
         replace p689 := eq_true p689
         replace q689 := eq_true q689
         have p690 : 0 ≤ (x5_1 : Int) := of_decide_eq_true (by first | (with_reducible assumption) | assumption)
         have q690 : x5_1 < (l0.length : Int) := of_decide_eq_true (by first | (with_reducible assumption) | assumption)
         obtain ⟨ad690, e690, hx690_0, hx690_1, hx690_2, hx690_3, hx690_4⟩ := at_T105 HR0.out x5_1 p690 q690
         obtain rfl : ad687 = ad690 := (by injection e690)
         replace p690 := eq_true p690
         replace q690 := eq_true q690
         go_wp2
         go_ret
         exact ⟨by first | rfl | (simp; done) | (simp [*]; done), by repeat (first | exact Drawn0.refl _ | apply Drawn0.step)⟩
       ·rw [if_neg c7] at H
        have c7b0 : (((rd_T105 l0 x5_1).f1.f1) == (wrap64 ((wrap64 (x1_1 + 1)) + 1))) = false := beq_eq_false_iff_ne.mpr c7
        have c7b1 : (((rd_T105 l0 x5_1).f1.f1) != (wrap64 ((wrap64 (x1_1 + 1)) + 1))) = true := bne_iff_ne.mpr c7
        obtain rfl := Option.some.inj H
        have p687 : 0 ≤ (x5_1 : Int) := of_decide_eq_true (by first | (with_reducible assumption) | assumption)
        have q687 : x5_1 < (l0.length : Int) := of_decide_eq_true (by first | (with_reducible assumption) | assumption)
        obtain ⟨ad687, e687, hx687_0, hx687_1, hx687_2, hx687_3, hx687_4⟩ := at_T105 HR0.out x5_1 p687 q687
        cases e687
        replace p687 := eq_true p687
        replace q687 := eq_true q687
        have p688 : 0 ≤ (x5_1 : Int) := of_decide_eq_true (by first | (with_reducible assumption) | assumption)
        have q688 : x5_1 < (l0.length : Int) := of_decide_eq_true (by first | (with_reducible assumption) | assumption)
        obtain ⟨ad688, e688, hx688_0, hx688_1, hx688_2, hx688_3, hx688_4⟩ := at_T105 HR0.out x5_1 p688 q688
        obtain rfl : ad687 = ad688 := (by injection e688)
        replace p688 := eq_true p688
        replace q688 := eq_true q688
        have p689 : 0 ≤ (x5_1 : Int) := of_decide_eq_true (by first | (with_reducible assumption) | assumption)
        have q689 : x5_1 < (l0.length : Int) := of_decide_eq_true (by first | (with_reducible assumption) | assumption)
        obtain ⟨ad689, e689, hx689_0, hx689_1, hx689_2, hx689_3, hx689_4⟩ := at_T105 HR0.out x5_1 p689 q689
        obtain rfl : ad687 = ad689 := (by injection e689)
        replace p689 := eq_true p689
        replace q689 := eq_true q689
        go_wp2
        go_ret
        exact ⟨by first | rfl | (simp; done) | (simp [*]; done), by repeat (first | exact Drawn0.refl _ | apply Drawn0.step)⟩
      ·rw [if_neg c6] at H
       have c6b0 : (((rd_T105 l0 x5_1).f1.f0) == (wrap64 (x1_1 + 1))) = false := beq_eq_false_iff_ne.mpr c6
       have c6b1 : (((rd_T105 l0 x5_1).f1.f0) != (wrap64 (x1_1 + 1))) = true := bne_iff_ne.mpr c6
       obtain rfl := Option.some.inj H
       have p687 : 0 ≤ (x5_1 : Int) := of_decide_eq_true (by first | (with_reducible assumption) | assumption)
       have q687 : x5_1 < (l0.length : Int) := of_decide_eq_true (by first | (with_reducible assumption) | assumption)
       obtain ⟨ad687, e687, hx687_0, hx687_1, hx687_2, hx687_3, hx687_4⟩ := at_T105 HR0.out x5_1 p687 q687
       cases e687
       replace p687 := eq_true p687
       replace q687 := eq_true q687
       have p688 : 0 ≤ (x5_1 : Int) := of_decide_eq_true (by first | (with_reducible assumption) | assumption)
       have q688 : x5_1 < (l0.length : Int) := of_decide_eq_true (by first | (with_reducible assumption) | assumption)
       obtain ⟨ad688, e688, hx688_0, hx688_1, hx688_2, hx688_3, hx688_4⟩ := at_T105 HR0.out x5_1 p688 q688
       obtain rfl : ad687 = ad688 := (by injection e688)
       replace p688 := eq_true p688
       replace q688 := eq_true q688
       go_wp2
       go_ret
       exact ⟨by first | rfl | (simp; done) | (simp [*]; done), by repeat (first | exact Drawn0.refl _ | apply Drawn0.step)⟩
     ·rw [if_neg c5] at H
      have c5b0 : (((rd_T105 l0 x5_1).f0) == x1_1) = false := beq_eq_false_iff_ne.mpr c5
      have c5b1 : (((rd_T105 l0 x5_1).f0) != x1_1) = true := bne_iff_ne.mpr c5
      obtain rfl := Option.some.inj H
      have p687 : 0 ≤ (x5_1 : Int) := of_decide_eq_true (by first | (with_reducible assumption) | assumption)
      have q687 : x5_1 < (l0.length : Int) := of_decide_eq_true (by first | (with_reducible assumption) | assumption)
      obtain ⟨ad687, e687, hx687_0, hx687_1, hx687_2, hx687_3, hx687_4⟩ := at_T105 HR0.out x5_1 p687 q687
      cases e687
      replace p687 := eq_true p687
      replace q687 := eq_true q687
      go_wp2
      go_ret
      exact ⟨by first | rfl | (simp; done) | (simp [*]; done), by repeat (first | exact Drawn0.refl _ | apply Drawn0.step)⟩
    ·rw [if_neg c4] at H
     exact absurd H (by simp)
   ·rw [if_neg c3] at H
    have c3b0 : decide (x5_1 < (l0.length : Int)) = false := decide_eq_false c3
    clear c3
    obtain rfl := Option.some.inj H
    go_wp2
    go_ret
    exact ⟨by first | rfl | (simp; done) | (simp [*]; done), by repeat (first | exact Drawn0.refl _ | apply Drawn0.step)⟩
def laws_heldPolicy.f (k : Nat) (l0_0 : List (S105)) (a1 : Int) : Option (Int) := (laws_heldPolNodeS.f k l0_0 a1).bind fun t693 => (if t693 < 0 then (some (-1)) else (some t693))
set_option maxHeartbeats 8000000 in
set_option maxRecDepth 100000 in
theorem laws_heldPolicy.calls (k : Nat) (A0_0 : Option Addr) (c0_0 : Nat) (l0_0 : List (S105)) (a1 : Int) (r : Int) (w : World) (hr0_0 : Kd.C k105 w A0_0 l0_0.length l0_0) (hc0_0 : l0_0.length ≤ c0_0) (h : laws_heldPolicy.f k l0_0 a1 = some r) :
  Calls Try.prog 57 #[.agg #[.slice A0_0 l0_0.length c0_0], .int .i64 a1] w fun e w' => e = .returned (.int .i64 r) ∧ Below w.heap.size w w' := by
 have hu39 := Try.underlying39
 have HR0_0 := Aside0.mk hr0_0
 have HC0_0 := Aside0.mk hc0_0
 clear hr0_0 hc0_0
 have HB := Aside0.mk (Below.refl w.heap.size w)
 have H : ((laws_heldPolNodeS.f k l0_0 a1).bind fun t693 => (if t693 < 0 then (some (-1)) else (some t693))) = some r := h
 clear h
 obtain ⟨t693, A3, H⟩ := bindE_ H
 by_cases c4 : t693 < 0
 ·rw [if_pos c4] at H
  have c4b0 : decide (t693 < 0) = true := decide_eq_true c4
  clear c4
  obtain rfl := Option.some.inj H
  go_enter Try.func57, Try.ntmps57
  go_wp2_with (first | ((with_reducible refine gate_dst (N := 2) rfl ?_); refine box_event ?hg (N := 2) ?hd (cs := #[.slice A0_0 l0_0.length c0_0]) (t := 39) ?hr ?_; (case hd => rfl); (case hg => rfl); (case hr => first | (go_simp; done) | (go_simp; rfl)); intro gb692 hg w5 hbox hb; have BK692 := Aside0.mk (hbox); have GW692 := gs_ hg; have GE692 := gs_ hg; replace HB := hbs_ hb; clear hb hbox hg; have hcz6 := blk_cell BK692.out; have hfz6 := blk_frozen BK692.out) | ((with_reducible refine gate_callee (f := 119) rfl ?_); refine goesC_ (some 8) Try.func119 #[.slice A0_0 l0_0.length c0_0, .int .i64 a1] ?_; (with_reducible refine (laws_heldPolNodeS.calls k _ _ l0_0 a1 t693 _ ?side1 ?side2 A3.out).mono ?_); (case side1 => repeat (first | exact (Kd.C_below HR0_0.out HB.out) | (with_reducible refine Kd.C_alloc ?_ _) | (with_reducible refine Kd.C_drewN ?_ _) | (with_reducible refine Kd.C_drew ?_))); (case side2 => exact HC0_0.out); rintro e w' ⟨rfl, ⟨nd, rfl⟩⟩; refine ⟨_, rfl, ?_⟩))
  go_ret
  exact ⟨eq_, bl_⟩
 ·rw [if_neg c4] at H
  have c4b0 : decide (t693 < 0) = false := decide_eq_false c4
  clear c4
  obtain rfl := Option.some.inj H
  go_enter Try.func57, Try.ntmps57
  go_wp2_with (first | ((with_reducible refine gate_dst (N := 2) rfl ?_); refine box_event ?hg (N := 2) ?hd (cs := #[.slice A0_0 l0_0.length c0_0]) (t := 39) ?hr ?_; (case hd => rfl); (case hg => rfl); (case hr => first | (go_simp; done) | (go_simp; rfl)); intro gb692 hg w7 hbox hb; have BK692 := Aside0.mk (hbox); have GW692 := gs_ hg; have GE692 := gs_ hg; replace HB := hbs_ hb; clear hb hbox hg; have hcz8 := blk_cell BK692.out; have hfz8 := blk_frozen BK692.out) | ((with_reducible refine gate_callee (f := 119) rfl ?_); refine goesC_ (some 8) Try.func119 #[.slice A0_0 l0_0.length c0_0, .int .i64 a1] ?_; (with_reducible refine (laws_heldPolNodeS.calls k _ _ l0_0 a1 t693 _ ?side1 ?side2 A3.out).mono ?_); (case side1 => repeat (first | exact (Kd.C_below HR0_0.out HB.out) | (with_reducible refine Kd.C_alloc ?_ _) | (with_reducible refine Kd.C_drewN ?_ _) | (with_reducible refine Kd.C_drew ?_))); (case side2 => exact HC0_0.out); rintro e w' ⟨rfl, ⟨nd, rfl⟩⟩; refine ⟨_, rfl, ?_⟩))
  go_ret
  exact ⟨eq_, bl_⟩
end Go.Proofs.Ytcgnegnljffkmaa.PA
