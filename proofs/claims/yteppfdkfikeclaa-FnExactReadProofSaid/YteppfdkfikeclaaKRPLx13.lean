import Derived.Test.YteppfdkfikeclaaKRPLx12
-- A text of this claim: written by the session's own program out of the translation (wip/tools). Lean checks it.
namespace Go.Proofs.Yteppfdkfikeclaa.PL
open Go.RowKit Go.Proofs.YteppfdkfikeclaaW.PrintWords Go.Proofs.YteppfdkfikeclaaW.PrintLast Go.Proofs.YteppfdkfikeclaaW.PrintMore
attribute [local go_sem] max2_int min2_int max_two min_two max_three min_three max_four min_four   -- for this text's walks alone
set_option linter.unusedVariables false
set_option linter.unusedSimpArgs false
def laws_heldIntS.l0 : Nat → List Int → Int → Int → Option (Int)
 | 0, _, _, _ => none
 | k + 1, x0, x1, x5 => if x5 < (x0.length : Int) then (if 0 ≤ x5 then (if (rd x0 x5) = x1 then (laws_heldIntS.l0 k x0 (wrap64 (x1 + 1)) (wrap64 (x5 + 1))) else (some (-1))) else (none)) else (some x1)
def laws_heldIntS.f (k : Nat) (l0 : List Int) (a1 : Int) : Option (Int) := laws_heldIntS.l0 k l0 a1 0
set_option maxHeartbeats 8000000 in
set_option maxRecDepth 100000 in
theorem laws_heldIntS.calls (k : Nat) (A0 : Option Addr) (c0 : Nat) (l0 : List Int) (a1 : Int) (r : Int) (w : World) (hr0 : Kd.C (Kd.int .i64) w A0 l0.length l0) (hc0 : l0.length ≤ c0) (h : laws_heldIntS.f k l0 a1 = some r) :
  Calls Try.prog 14 #[.slice A0 l0.length c0, .int .i64 a1] w fun e w' => e = .returned (.int .i64 r) ∧ Drawn0 w w' := by
 have HR0 := Aside0.mk hr0
 have HC0 := Aside0.mk hc0
 clear hr0 hc0
 have H : (laws_heldIntS.l0 k l0 a1 0) = some r := h
 clear h
 have H' := Aside0.mk H
 clear H
 go_enter Try.func14, Try.ntmps14
 go_wp2
 go_loopg [1, 5] k (fun kq v1 v5 w' => ∃ (x1_1 : Int) (x5_1 : Int), v1 = .int .i64 x1_1 ∧ v5 = .int .i64 x5_1 ∧ Aside0 (laws_heldIntS.l0 kq l0 x1_1 x5_1 = some r) ∧ Aside0 (kq ≤ k) ∧ Drawn0 w w')
 case atStart => exact ⟨(a1), (0), (by first | rfl | (simp; done) | (simp [*]; done)), (by first | rfl | (simp; done) | (simp [*]; done)), H', ⟨Nat.le_refl _⟩, by repeat (first | exact Drawn0.refl _ | apply Drawn0.step)⟩
 case round =>
  clear H'
  try clear c1
  try clear p2
  obtain ⟨x1_1, x5_1, rfl, rfl, HA, HK1, ⟨m1, rfl⟩⟩ := hrel
  cases gk with
  | zero => exact absurd HA.out (by simp [laws_heldIntS.l0])
  | succ k1 =>
   have H := HA.out
   clear HA
   simp only [laws_heldIntS.l0] at H
   by_cases c3 : x5_1 < (l0.length : Int)
   ·rw [if_pos c3] at H
    have c3b0 : decide (x5_1 < (l0.length : Int)) = true := decide_eq_true c3
    clear c3
    by_cases c4 : 0 ≤ x5_1
    ·rw [if_pos c4] at H
     have c4b0 : decide (0 ≤ x5_1) = true := decide_eq_true c4
     clear c4
     have HC5 := Aside0.mk H
     clear H
     have p410 : 0 ≤ (x5_1 : Int) := of_decide_eq_true (by first | (with_reducible assumption) | assumption)
     have q410 : x5_1 < (l0.length : Int) := of_decide_eq_true (by first | (with_reducible assumption) | assumption)
     obtain ⟨ad410, e410, hx410_0⟩ := Kd.at_int HR0.out x5_1 p410 q410
     cases e410
     replace p410 := eq_true p410
     replace q410 := eq_true q410
     go_upto_if 17 with (fail)
     have H := HC5.out
     clear HC5
     by_cases c6 : (rd l0 x5_1) = x1_1
     ·rw [if_pos c6] at H
      have c6b0 : ((rd l0 x5_1) == x1_1) = true := beq_iff_eq.mpr c6
      have c6b1 : ((rd l0 x5_1) != x1_1) = false := bne_eq_false_iff_eq.mpr c6
      clear c6
      (first | rw [c6b0] | (simp only [i64_w, i32_w]; rw [c6b0]) | skip)
      have H' := Aside0.mk H
      clear H
      go_wp2
      go_roundg k1
      case measure => have := HK1.out; omega
      case rel => exact ⟨(wrap64 (x1_1 + 1)), (wrap64 (x5_1 + 1)), (by first | rfl | (simp; done) | (simp [*]; done)), (by first | rfl | (simp; done) | (simp [*]; done)), H', ⟨by have := HK1.out; omega⟩, by repeat (first | exact Drawn0.refl _ | apply Drawn0.step)⟩
     ·rw [if_neg c6] at H
      have c6b0 : ((rd l0 x5_1) == x1_1) = false := beq_eq_false_iff_ne.mpr c6
      have c6b1 : ((rd l0 x5_1) != x1_1) = true := bne_iff_ne.mpr c6
      (first | rw [c6b0] | (simp only [i64_w, i32_w]; rw [c6b0]) | skip)
      obtain rfl := Option.some.inj H
      go_wp2
      go_ret
      exact ⟨by first | rfl | (simp; done) | (simp [*]; done), by repeat (first | exact Drawn0.refl _ | apply Drawn0.step)⟩
    ·rw [if_neg c4] at H
     exact absurd H (by simp)
   ·rw [if_neg c3] at H
    have c3b0 : decide (x5_1 < (l0.length : Int)) = false := decide_eq_false c3
    clear c3
    obtain rfl := Option.some.inj H
    go_wp2
    go_ret
    exact ⟨by first | rfl | (simp; done) | (simp [*]; done), by repeat (first | exact Drawn0.refl _ | apply Drawn0.step)⟩
def laws_heldStepS.l0 : Nat → List (S36) → Int → Int → Option (Int)
 | 0, _, _, _ => none
 | k + 1, x0, x1, x5 => if x5 < (x0.length : Int) then (if 0 ≤ x5 then (if ((rd_T36 x0 x5).f0.f0) = x1 then (if ((rd_T36 x0 x5).f0.f1.f0) = (wrap64 (x1 + 1)) then (if ((rd_T36 x0 x5).f0.f1.f1) = (wrap64 ((wrap64 (x1 + 1)) + 1)) then (if ((rd_T36 x0 x5).f0.f2) = (wrap64 ((wrap64 ((wrap64 (x1 + 1)) + 1)) + 1)) then (if ((rd_T36 x0 x5).f0.f3.f0) = (wrap64 ((wrap64 ((wrap64 ((wrap64 (x1 + 1)) + 1)) + 1)) + 1)) then (if ((rd_T36 x0 x5).f0.f3.f1) = (wrap64 ((wrap64 ((wrap64 ((wrap64 ((wrap64 (x1 + 1)) + 1)) + 1)) + 1)) + 1)) then (if ((rd_T36 x0 x5).f0.f4.f0) = (wrap64 ((wrap64 ((wrap64 ((wrap64 ((wrap64 ((wrap64 (x1 + 1)) + 1)) + 1)) + 1)) + 1)) + 1)) then (if ((rd_T36 x0 x5).f0.f4.f1) = (wrap64 ((wrap64 ((wrap64 ((wrap64 ((wrap64 ((wrap64 ((wrap64 (x1 + 1)) + 1)) + 1)) + 1)) + 1)) + 1)) + 1)) then (if ((rd_T36 x0 x5).f0.f5) = (wrap64 ((wrap64 ((wrap64 ((wrap64 ((wrap64 ((wrap64 ((wrap64 ((wrap64 (x1 + 1)) + 1)) + 1)) + 1)) + 1)) + 1)) + 1)) + 1)) then (if ((rd_T36 x0 x5).f0.f6) = (wrap64 ((wrap64 ((wrap64 ((wrap64 ((wrap64 ((wrap64 ((wrap64 ((wrap64 ((wrap64 (x1 + 1)) + 1)) + 1)) + 1)) + 1)) + 1)) + 1)) + 1)) + 1)) then (if ((rd_T36 x0 x5).f1.f0.f0) = (wrap64 ((wrap64 ((wrap64 ((wrap64 ((wrap64 ((wrap64 ((wrap64 ((wrap64 ((wrap64 ((wrap64 (x1 + 1)) + 1)) + 1)) + 1)) + 1)) + 1)) + 1)) + 1)) + 1)) + 1)) then (if ((rd_T36 x0 x5).f1.f0.f1) = (wrap64 ((wrap64 ((wrap64 ((wrap64 ((wrap64 ((wrap64 ((wrap64 ((wrap64 ((wrap64 ((wrap64 ((wrap64 (x1 + 1)) + 1)) + 1)) + 1)) + 1)) + 1)) + 1)) + 1)) + 1)) + 1)) + 1)) then (if ((rd_T36 x0 x5).f1.f1) = (wrap64 ((wrap64 ((wrap64 ((wrap64 ((wrap64 ((wrap64 ((wrap64 ((wrap64 ((wrap64 ((wrap64 ((wrap64 ((wrap64 (x1 + 1)) + 1)) + 1)) + 1)) + 1)) + 1)) + 1)) + 1)) + 1)) + 1)) + 1)) + 1)) then ((laws_heldIntS.f k ((rd_T36 x0 x5).f2) (wrap64 ((wrap64 ((wrap64 ((wrap64 ((wrap64 ((wrap64 ((wrap64 ((wrap64 ((wrap64 ((wrap64 ((wrap64 ((wrap64 ((wrap64 (x1 + 1)) + 1)) + 1)) + 1)) + 1)) + 1)) + 1)) + 1)) + 1)) + 1)) + 1)) + 1)) + 1))).bind fun t425 => (if t425 < 0 then (some (-1)) else (laws_heldStepS.l0 k x0 t425 (wrap64 (x5 + 1))))) else (some (-1))) else (some (-1))) else (some (-1))) else (some (-1))) else (some (-1))) else (some (-1))) else (some (-1))) else (some (-1))) else (some (-1))) else (some (-1))) else (some (-1))) else (some (-1))) else (some (-1))) else (none)) else (some x1)
def laws_heldStepS.f (k : Nat) (l0 : List (S36)) (a1 : Int) : Option (Int) := laws_heldStepS.l0 k l0 a1 0
set_option maxHeartbeats 8000000 in
set_option maxRecDepth 100000 in
theorem laws_heldStepS.calls (k : Nat) (A0 : Option Addr) (c0 : Nat) (l0 : List (S36)) (a1 : Int) (r : Int) (w : World) (hr0 : Kd.C k36 w A0 l0.length l0) (hc0 : l0.length ≤ c0) (h : laws_heldStepS.f k l0 a1 = some r) :
  Calls Try.prog 8 #[.slice A0 l0.length c0, .int .i64 a1] w fun e w' => e = .returned (.int .i64 r) ∧ Drawn0 w w' := by
 have HR0 := Aside0.mk hr0
 have HC0 := Aside0.mk hc0
 clear hr0 hc0
 have H : (laws_heldStepS.l0 k l0 a1 0) = some r := h
 clear h
 have H' := Aside0.mk H
 clear H
 go_enter Try.func8, Try.ntmps8
 go_wp2
 go_loopg [1, 5] k (fun kq v1 v5 w' => ∃ (x1_1 : Int) (x5_1 : Int), v1 = .int .i64 x1_1 ∧ v5 = .int .i64 x5_1 ∧ Aside0 (laws_heldStepS.l0 kq l0 x1_1 x5_1 = some r) ∧ Aside0 (kq ≤ k) ∧ Drawn0 w w')
 case atStart => exact ⟨(a1), (0), (by first | rfl | (simp; done) | (simp [*]; done)), (by first | rfl | (simp; done) | (simp [*]; done)), H', ⟨Nat.le_refl _⟩, by repeat (first | exact Drawn0.refl _ | apply Drawn0.step)⟩
 case round =>
  clear H'
  try clear p2
  obtain ⟨x1_1, x5_1, rfl, rfl, HA, HK1, ⟨m1, rfl⟩⟩ := hrel
  cases gk with
  | zero => exact absurd HA.out (by simp [laws_heldStepS.l0])
  | succ k1 =>
   have H := HA.out
   clear HA
   simp only [laws_heldStepS.l0] at H
   by_cases c3 : x5_1 < (l0.length : Int)
   ·rw [if_pos c3] at H
    have c3b0 : decide (x5_1 < (l0.length : Int)) = true := decide_eq_true c3
    clear c3
    by_cases c4 : 0 ≤ x5_1
    ·rw [if_pos c4] at H
     have c4b0 : decide (0 ≤ x5_1) = true := decide_eq_true c4
     clear c4
     have HC5 := Aside0.mk H
     clear H
     have p411 : 0 ≤ (x5_1 : Int) := of_decide_eq_true (by first | (with_reducible assumption) | assumption)
     have q411 : x5_1 < (l0.length : Int) := of_decide_eq_true (by first | (with_reducible assumption) | assumption)
     obtain ⟨ad411, A411_13, c411_13, e411, hx411_0, hx411_1, hx411_2, hx411_3, hx411_4, hx411_5, hx411_6, hx411_7, hx411_8, hx411_9, hx411_10, hx411_11, hx411_12, hx411_13, hl411_13, hi411_13⟩ := at_T36 HR0.out x5_1 p411 q411
     cases e411
     have HR411_13 := Aside0.mk hi411_13
     have HC411_13 := Aside0.mk hl411_13
     clear hi411_13 hl411_13
     replace p411 := eq_true p411
     replace q411 := eq_true q411
     go_upto_if 19 with (fail)
     have H := HC5.out
     clear HC5
     by_cases c6 : ((rd_T36 l0 x5_1).f0.f0) = x1_1
     ·rw [if_pos c6] at H
      have c6b0 : (((rd_T36 l0 x5_1).f0.f0) == x1_1) = true := beq_iff_eq.mpr c6
      have c6b1 : (((rd_T36 l0 x5_1).f0.f0) != x1_1) = false := bne_eq_false_iff_eq.mpr c6
      clear c6
      (first | rw [c6b0] | (simp only [i64_w, i32_w]; rw [c6b0]) | skip)
      have HC7 := Aside0.mk H
      clear H
      have p412 : 0 ≤ (x5_1 : Int) := of_decide_eq_true (by first | (with_reducible assumption) | assumption)
      have q412 : x5_1 < (l0.length : Int) := of_decide_eq_true (by first | (with_reducible assumption) | assumption)
      obtain ⟨ad412, A412_13, c412_13, e412, hx412_0, hx412_1, hx412_2, hx412_3, hx412_4, hx412_5, hx412_6, hx412_7, hx412_8, hx412_9, hx412_10, hx412_11, hx412_12, hx412_13, hl412_13, hi412_13⟩ := at_T36 HR0.out x5_1 p412 q412
      obtain rfl : ad411 = ad412 := (by injection e412)
      have HR412_13 := Aside0.mk hi412_13
      have HC412_13 := Aside0.mk hl412_13
      clear hi412_13 hl412_13
      replace p412 := eq_true p412
      replace q412 := eq_true q412
      go_upto_if 30 with (fail)
      have H := HC7.out
      clear HC7
      by_cases c8 : ((rd_T36 l0 x5_1).f0.f1.f0) = (wrap64 (x1_1 + 1))
      ·rw [if_pos c8] at H
       have c8b0 : (((rd_T36 l0 x5_1).f0.f1.f0) == (wrap64 (x1_1 + 1))) = true := beq_iff_eq.mpr c8
       have c8b1 : (((rd_T36 l0 x5_1).f0.f1.f0) != (wrap64 (x1_1 + 1))) = false := bne_eq_false_iff_eq.mpr c8
       clear c8
       (first | rw [c8b0] | (simp only [i64_w, i32_w]; rw [c8b0]) | skip)
       have HC9 := Aside0.mk H
       clear H
       have p413 : 0 ≤ (x5_1 : Int) := of_decide_eq_true (by first | (with_reducible assumption) | assumption)
       have q413 : x5_1 < (l0.length : Int) := of_decide_eq_true (by first | (with_reducible assumption) | assumption)
       obtain ⟨ad413, A413_13, c413_13, e413, hx413_0, hx413_1, hx413_2, hx413_3, hx413_4, hx413_5, hx413_6, hx413_7, hx413_8, hx413_9, hx413_10, hx413_11, hx413_12, hx413_13, hl413_13, hi413_13⟩ := at_T36 HR0.out x5_1 p413 q413
       obtain rfl : ad411 = ad413 := (by injection e413)
       have HR413_13 := Aside0.mk hi413_13
       have HC413_13 := Aside0.mk hl413_13
       clear hi413_13 hl413_13
       replace p413 := eq_true p413
       replace q413 := eq_true q413
       go_upto_if 41 with (fail)
       have H := HC9.out
       clear HC9
       by_cases c10 : ((rd_T36 l0 x5_1).f0.f1.f1) = (wrap64 ((wrap64 (x1_1 + 1)) + 1))
       ·rw [if_pos c10] at H
        have c10b0 : (((rd_T36 l0 x5_1).f0.f1.f1) == (wrap64 ((wrap64 (x1_1 + 1)) + 1))) = true := beq_iff_eq.mpr c10
        have c10b1 : (((rd_T36 l0 x5_1).f0.f1.f1) != (wrap64 ((wrap64 (x1_1 + 1)) + 1))) = false := bne_eq_false_iff_eq.mpr c10
        clear c10
        (first | rw [c10b0] | (simp only [i64_w, i32_w]; rw [c10b0]) | skip)
        have HC11 := Aside0.mk H
        clear H
        have p414 : 0 ≤ (x5_1 : Int) := of_decide_eq_true (by first | (with_reducible assumption) | assumption)
        have q414 : x5_1 < (l0.length : Int) := of_decide_eq_true (by first | (with_reducible assumption) | assumption)
        obtain ⟨ad414, A414_13, c414_13, e414, hx414_0, hx414_1, hx414_2, hx414_3, hx414_4, hx414_5, hx414_6, hx414_7, hx414_8, hx414_9, hx414_10, hx414_11, hx414_12, hx414_13, hl414_13, hi414_13⟩ := at_T36 HR0.out x5_1 p414 q414
        obtain rfl : ad411 = ad414 := (by injection e414)
        have HR414_13 := Aside0.mk hi414_13
        have HC414_13 := Aside0.mk hl414_13
        clear hi414_13 hl414_13
        replace p414 := eq_true p414
        replace q414 := eq_true q414
        go_upto_if 51 with (fail)
        have H := HC11.out
        clear HC11
        by_cases c12 : ((rd_T36 l0 x5_1).f0.f2) = (wrap64 ((wrap64 ((wrap64 (x1_1 + 1)) + 1)) + 1))
        ·rw [if_pos c12] at H
         have c12b0 : (((rd_T36 l0 x5_1).f0.f2) == (wrap64 ((wrap64 ((wrap64 (x1_1 + 1)) + 1)) + 1))) = true := beq_iff_eq.mpr c12
         have c12b1 : (((rd_T36 l0 x5_1).f0.f2) != (wrap64 ((wrap64 ((wrap64 (x1_1 + 1)) + 1)) + 1))) = false := bne_eq_false_iff_eq.mpr c12
         clear c12
         (first | rw [c12b0] | (simp only [i64_w, i32_w]; rw [c12b0]) | skip)
         have HC13 := Aside0.mk H
         clear H
         have p415 : 0 ≤ (x5_1 : Int) := of_decide_eq_true (by first | (with_reducible assumption) | assumption)
         have q415 : x5_1 < (l0.length : Int) := of_decide_eq_true (by first | (with_reducible assumption) | assumption)
         obtain ⟨ad415, A415_13, c415_13, e415, hx415_0, hx415_1, hx415_2, hx415_3, hx415_4, hx415_5, hx415_6, hx415_7, hx415_8, hx415_9, hx415_10, hx415_11, hx415_12, hx415_13, hl415_13, hi415_13⟩ := at_T36 HR0.out x5_1 p415 q415
         obtain rfl : ad411 = ad415 := (by injection e415)
         have HR415_13 := Aside0.mk hi415_13
         have HC415_13 := Aside0.mk hl415_13
         clear hi415_13 hl415_13
         replace p415 := eq_true p415
         replace q415 := eq_true q415
         go_upto_if 62 with (fail)
         have H := HC13.out
         clear HC13
         by_cases c14 : ((rd_T36 l0 x5_1).f0.f3.f0) = (wrap64 ((wrap64 ((wrap64 ((wrap64 (x1_1 + 1)) + 1)) + 1)) + 1))
         ·rw [if_pos c14] at H
          have c14b0 : (((rd_T36 l0 x5_1).f0.f3.f0) == (wrap64 ((wrap64 ((wrap64 ((wrap64 (x1_1 + 1)) + 1)) + 1)) + 1))) = true := beq_iff_eq.mpr c14
          have c14b1 : (((rd_T36 l0 x5_1).f0.f3.f0) != (wrap64 ((wrap64 ((wrap64 ((wrap64 (x1_1 + 1)) + 1)) + 1)) + 1))) = false := bne_eq_false_iff_eq.mpr c14
          clear c14
          (first | rw [c14b0] | (simp only [i64_w, i32_w]; rw [c14b0]) | skip)
          have HC15 := Aside0.mk H
          clear H
          have p416 : 0 ≤ (x5_1 : Int) := of_decide_eq_true (by first | (with_reducible assumption) | assumption)
          have q416 : x5_1 < (l0.length : Int) := of_decide_eq_true (by first | (with_reducible assumption) | assumption)
          obtain ⟨ad416, A416_13, c416_13, e416, hx416_0, hx416_1, hx416_2, hx416_3, hx416_4, hx416_5, hx416_6, hx416_7, hx416_8, hx416_9, hx416_10, hx416_11, hx416_12, hx416_13, hl416_13, hi416_13⟩ := at_T36 HR0.out x5_1 p416 q416
          obtain rfl : ad411 = ad416 := (by injection e416)
          have HR416_13 := Aside0.mk hi416_13
          have HC416_13 := Aside0.mk hl416_13
          clear hi416_13 hl416_13
          replace p416 := eq_true p416
          replace q416 := eq_true q416
          go_upto_if 73 with (fail)
          have H := HC15.out
          clear HC15
          by_cases c16 : ((rd_T36 l0 x5_1).f0.f3.f1) = (wrap64 ((wrap64 ((wrap64 ((wrap64 ((wrap64 (x1_1 + 1)) + 1)) + 1)) + 1)) + 1))
          ·rw [if_pos c16] at H
           have c16b0 : (((rd_T36 l0 x5_1).f0.f3.f1) == (wrap64 ((wrap64 ((wrap64 ((wrap64 ((wrap64 (x1_1 + 1)) + 1)) + 1)) + 1)) + 1))) = true := beq_iff_eq.mpr c16
           have c16b1 : (((rd_T36 l0 x5_1).f0.f3.f1) != (wrap64 ((wrap64 ((wrap64 ((wrap64 ((wrap64 (x1_1 + 1)) + 1)) + 1)) + 1)) + 1))) = false := bne_eq_false_iff_eq.mpr c16
           clear c16
           (first | rw [c16b0] | (simp only [i64_w, i32_w]; rw [c16b0]) | skip)
           have HC17 := Aside0.mk H
           clear H
           have p417 : 0 ≤ (x5_1 : Int) := of_decide_eq_true (by first | (with_reducible assumption) | assumption)
           have q417 : x5_1 < (l0.length : Int) := of_decide_eq_true (by first | (with_reducible assumption) | assumption)
           obtain ⟨ad417, A417_13, c417_13, e417, hx417_0, hx417_1, hx417_2, hx417_3, hx417_4, hx417_5, hx417_6, hx417_7, hx417_8, hx417_9, hx417_10, hx417_11, hx417_12, hx417_13, hl417_13, hi417_13⟩ := at_T36 HR0.out x5_1 p417 q417
           obtain rfl : ad411 = ad417 := (by injection e417)
           have HR417_13 := Aside0.mk hi417_13
           have HC417_13 := Aside0.mk hl417_13
           clear hi417_13 hl417_13
           replace p417 := eq_true p417
           replace q417 := eq_true q417
           go_upto_if 84 with (fail)
           have H := HC17.out
           clear HC17
           by_cases c18 : ((rd_T36 l0 x5_1).f0.f4.f0) = (wrap64 ((wrap64 ((wrap64 ((wrap64 ((wrap64 ((wrap64 (x1_1 + 1)) + 1)) + 1)) + 1)) + 1)) + 1))
           ·rw [if_pos c18] at H
            have c18b0 : (((rd_T36 l0 x5_1).f0.f4.f0) == (wrap64 ((wrap64 ((wrap64 ((wrap64 ((wrap64 ((wrap64 (x1_1 + 1)) + 1)) + 1)) + 1)) + 1)) + 1))) = true := beq_iff_eq.mpr c18
            have c18b1 : (((rd_T36 l0 x5_1).f0.f4.f0) != (wrap64 ((wrap64 ((wrap64 ((wrap64 ((wrap64 ((wrap64 (x1_1 + 1)) + 1)) + 1)) + 1)) + 1)) + 1))) = false := bne_eq_false_iff_eq.mpr c18
            clear c18
            (first | rw [c18b0] | (simp only [i64_w, i32_w]; rw [c18b0]) | skip)
            have HC19 := Aside0.mk H
            clear H
            have p418 : 0 ≤ (x5_1 : Int) := of_decide_eq_true (by first | (with_reducible assumption) | assumption)
            have q418 : x5_1 < (l0.length : Int) := of_decide_eq_true (by first | (with_reducible assumption) | assumption)
            obtain ⟨ad418, A418_13, c418_13, e418, hx418_0, hx418_1, hx418_2, hx418_3, hx418_4, hx418_5, hx418_6, hx418_7, hx418_8, hx418_9, hx418_10, hx418_11, hx418_12, hx418_13, hl418_13, hi418_13⟩ := at_T36 HR0.out x5_1 p418 q418
            obtain rfl : ad411 = ad418 := (by injection e418)
            have HR418_13 := Aside0.mk hi418_13
            have HC418_13 := Aside0.mk hl418_13
            clear hi418_13 hl418_13
            replace p418 := eq_true p418
            replace q418 := eq_true q418
            go_upto_if 95 with (fail)
            have H := HC19.out
            clear HC19
            by_cases c20 : ((rd_T36 l0 x5_1).f0.f4.f1) = (wrap64 ((wrap64 ((wrap64 ((wrap64 ((wrap64 ((wrap64 ((wrap64 (x1_1 + 1)) + 1)) + 1)) + 1)) + 1)) + 1)) + 1))
            ·rw [if_pos c20] at H
             have c20b0 : (((rd_T36 l0 x5_1).f0.f4.f1) == (wrap64 ((wrap64 ((wrap64 ((wrap64 ((wrap64 ((wrap64 ((wrap64 (x1_1 + 1)) + 1)) + 1)) + 1)) + 1)) + 1)) + 1))) = true := beq_iff_eq.mpr c20
             have c20b1 : (((rd_T36 l0 x5_1).f0.f4.f1) != (wrap64 ((wrap64 ((wrap64 ((wrap64 ((wrap64 ((wrap64 ((wrap64 (x1_1 + 1)) + 1)) + 1)) + 1)) + 1)) + 1)) + 1))) = false := bne_eq_false_iff_eq.mpr c20
             clear c20
             (first | rw [c20b0] | (simp only [i64_w, i32_w]; rw [c20b0]) | skip)
             have HC21 := Aside0.mk H
             clear H
             have p419 : 0 ≤ (x5_1 : Int) := of_decide_eq_true (by first | (with_reducible assumption) | assumption)
             have q419 : x5_1 < (l0.length : Int) := of_decide_eq_true (by first | (with_reducible assumption) | assumption)
             obtain ⟨ad419, A419_13, c419_13, e419, hx419_0, hx419_1, hx419_2, hx419_3, hx419_4, hx419_5, hx419_6, hx419_7, hx419_8, hx419_9, hx419_10, hx419_11, hx419_12, hx419_13, hl419_13, hi419_13⟩ := at_T36 HR0.out x5_1 p419 q419
             obtain rfl : ad411 = ad419 := (by injection e419)
             have HR419_13 := Aside0.mk hi419_13
             have HC419_13 := Aside0.mk hl419_13
             clear hi419_13 hl419_13
             replace p419 := eq_true p419
             replace q419 := eq_true q419
             go_upto_if 105 with (fail)
             have H := HC21.out
             clear HC21
             by_cases c22 : ((rd_T36 l0 x5_1).f0.f5) = (wrap64 ((wrap64 ((wrap64 ((wrap64 ((wrap64 ((wrap64 ((wrap64 ((wrap64 (x1_1 + 1)) + 1)) + 1)) + 1)) + 1)) + 1)) + 1)) + 1))
             ·rw [if_pos c22] at H
              have c22b0 : (((rd_T36 l0 x5_1).f0.f5) == (wrap64 ((wrap64 ((wrap64 ((wrap64 ((wrap64 ((wrap64 ((wrap64 ((wrap64 (x1_1 + 1)) + 1)) + 1)) + 1)) + 1)) + 1)) + 1)) + 1))) = true := beq_iff_eq.mpr c22
              have c22b1 : (((rd_T36 l0 x5_1).f0.f5) != (wrap64 ((wrap64 ((wrap64 ((wrap64 ((wrap64 ((wrap64 ((wrap64 ((wrap64 (x1_1 + 1)) + 1)) + 1)) + 1)) + 1)) + 1)) + 1)) + 1))) = false := bne_eq_false_iff_eq.mpr c22
              clear c22
              (first | rw [c22b0] | (simp only [i64_w, i32_w]; rw [c22b0]) | skip)
              have HC23 := Aside0.mk H
              clear H
              have p420 : 0 ≤ (x5_1 : Int) := of_decide_eq_true (by first | (with_reducible assumption) | assumption)
              have q420 : x5_1 < (l0.length : Int) := of_decide_eq_true (by first | (with_reducible assumption) | assumption)
              obtain ⟨ad420, A420_13, c420_13, e420, hx420_0, hx420_1, hx420_2, hx420_3, hx420_4, hx420_5, hx420_6, hx420_7, hx420_8, hx420_9, hx420_10, hx420_11, hx420_12, hx420_13, hl420_13, hi420_13⟩ := at_T36 HR0.out x5_1 p420 q420
              obtain rfl : ad411 = ad420 := (by injection e420)
              have HR420_13 := Aside0.mk hi420_13
              have HC420_13 := Aside0.mk hl420_13
              clear hi420_13 hl420_13
              replace p420 := eq_true p420
              replace q420 := eq_true q420
              go_upto_if 115 with (fail)
              have H := HC23.out
              clear HC23
              by_cases c24 : ((rd_T36 l0 x5_1).f0.f6) = (wrap64 ((wrap64 ((wrap64 ((wrap64 ((wrap64 ((wrap64 ((wrap64 ((wrap64 ((wrap64 (x1_1 + 1)) + 1)) + 1)) + 1)) + 1)) + 1)) + 1)) + 1)) + 1))
              ·rw [if_pos c24] at H
               have c24b0 : (((rd_T36 l0 x5_1).f0.f6) == (wrap64 ((wrap64 ((wrap64 ((wrap64 ((wrap64 ((wrap64 ((wrap64 ((wrap64 ((wrap64 (x1_1 + 1)) + 1)) + 1)) + 1)) + 1)) + 1)) + 1)) + 1)) + 1))) = true := beq_iff_eq.mpr c24
               have c24b1 : (((rd_T36 l0 x5_1).f0.f6) != (wrap64 ((wrap64 ((wrap64 ((wrap64 ((wrap64 ((wrap64 ((wrap64 ((wrap64 ((wrap64 (x1_1 + 1)) + 1)) + 1)) + 1)) + 1)) + 1)) + 1)) + 1)) + 1))) = false := bne_eq_false_iff_eq.mpr c24
               clear c24
               (first | rw [c24b0] | (simp only [i64_w, i32_w]; rw [c24b0]) | skip)
               have HC25 := Aside0.mk H
               clear H
               have p421 : 0 ≤ (x5_1 : Int) := of_decide_eq_true (by first | (with_reducible assumption) | assumption)
               have q421 : x5_1 < (l0.length : Int) := of_decide_eq_true (by first | (with_reducible assumption) | assumption)
               obtain ⟨ad421, A421_13, c421_13, e421, hx421_0, hx421_1, hx421_2, hx421_3, hx421_4, hx421_5, hx421_6, hx421_7, hx421_8, hx421_9, hx421_10, hx421_11, hx421_12, hx421_13, hl421_13, hi421_13⟩ := at_T36 HR0.out x5_1 p421 q421
               obtain rfl : ad411 = ad421 := (by injection e421)
               have HR421_13 := Aside0.mk hi421_13
               have HC421_13 := Aside0.mk hl421_13
               clear hi421_13 hl421_13
               replace p421 := eq_true p421
               replace q421 := eq_true q421
               go_upto_if 126 with (fail)
               have H := HC25.out
               clear HC25
               by_cases c26 : ((rd_T36 l0 x5_1).f1.f0.f0) = (wrap64 ((wrap64 ((wrap64 ((wrap64 ((wrap64 ((wrap64 ((wrap64 ((wrap64 ((wrap64 ((wrap64 (x1_1 + 1)) + 1)) + 1)) + 1)) + 1)) + 1)) + 1)) + 1)) + 1)) + 1))
               ·rw [if_pos c26] at H
                have c26b0 : (((rd_T36 l0 x5_1).f1.f0.f0) == (wrap64 ((wrap64 ((wrap64 ((wrap64 ((wrap64 ((wrap64 ((wrap64 ((wrap64 ((wrap64 ((wrap64 (x1_1 + 1)) + 1)) + 1)) + 1)) + 1)) + 1)) + 1)) + 1)) + 1)) + 1))) = true := beq_iff_eq.mpr c26
                have c26b1 : (((rd_T36 l0 x5_1).f1.f0.f0) != (wrap64 ((wrap64 ((wrap64 ((wrap64 ((wrap64 ((wrap64 ((wrap64 ((wrap64 ((wrap64 ((wrap64 (x1_1 + 1)) + 1)) + 1)) + 1)) + 1)) + 1)) + 1)) + 1)) + 1)) + 1))) = false := bne_eq_false_iff_eq.mpr c26
                clear c26
                (first | rw [c26b0] | (simp only [i64_w, i32_w]; rw [c26b0]) | skip)
                have HC27 := Aside0.mk H
                clear H
                have p422 : 0 ≤ (x5_1 : Int) := of_decide_eq_true (by first | (with_reducible assumption) | assumption)
                have q422 : x5_1 < (l0.length : Int) := of_decide_eq_true (by first | (with_reducible assumption) | assumption)
                obtain ⟨ad422, A422_13, c422_13, e422, hx422_0, hx422_1, hx422_2, hx422_3, hx422_4, hx422_5, hx422_6, hx422_7, hx422_8, hx422_9, hx422_10, hx422_11, hx422_12, hx422_13, hl422_13, hi422_13⟩ := at_T36 HR0.out x5_1 p422 q422
                obtain rfl : ad411 = ad422 := (by injection e422)
                have HR422_13 := Aside0.mk hi422_13
                have HC422_13 := Aside0.mk hl422_13
                clear hi422_13 hl422_13
                replace p422 := eq_true p422
                replace q422 := eq_true q422
                go_upto_if 137 with (fail)
                have H := HC27.out
                clear HC27
                by_cases c28 : ((rd_T36 l0 x5_1).f1.f0.f1) = (wrap64 ((wrap64 ((wrap64 ((wrap64 ((wrap64 ((wrap64 ((wrap64 ((wrap64 ((wrap64 ((wrap64 ((wrap64 (x1_1 + 1)) + 1)) + 1)) + 1)) + 1)) + 1)) + 1)) + 1)) + 1)) + 1)) + 1))
                ·rw [if_pos c28] at H
                 have c28b0 : (((rd_T36 l0 x5_1).f1.f0.f1) == (wrap64 ((wrap64 ((wrap64 ((wrap64 ((wrap64 ((wrap64 ((wrap64 ((wrap64 ((wrap64 ((wrap64 ((wrap64 (x1_1 + 1)) + 1)) + 1)) + 1)) + 1)) + 1)) + 1)) + 1)) + 1)) + 1)) + 1))) = true := beq_iff_eq.mpr c28
                 have c28b1 : (((rd_T36 l0 x5_1).f1.f0.f1) != (wrap64 ((wrap64 ((wrap64 ((wrap64 ((wrap64 ((wrap64 ((wrap64 ((wrap64 ((wrap64 ((wrap64 ((wrap64 (x1_1 + 1)) + 1)) + 1)) + 1)) + 1)) + 1)) + 1)) + 1)) + 1)) + 1)) + 1))) = false := bne_eq_false_iff_eq.mpr c28
                 clear c28
                 (first | rw [c28b0] | (simp only [i64_w, i32_w]; rw [c28b0]) | skip)
                 have HC29 := Aside0.mk H
                 clear H
                 have p423 : 0 ≤ (x5_1 : Int) := of_decide_eq_true (by first | (with_reducible assumption) | assumption)
                 have q423 : x5_1 < (l0.length : Int) := of_decide_eq_true (by first | (with_reducible assumption) | assumption)
                 obtain ⟨ad423, A423_13, c423_13, e423, hx423_0, hx423_1, hx423_2, hx423_3, hx423_4, hx423_5, hx423_6, hx423_7, hx423_8, hx423_9, hx423_10, hx423_11, hx423_12, hx423_13, hl423_13, hi423_13⟩ := at_T36 HR0.out x5_1 p423 q423
                 obtain rfl : ad411 = ad423 := (by injection e423)
                 have HR423_13 := Aside0.mk hi423_13
                 have HC423_13 := Aside0.mk hl423_13
                 clear hi423_13 hl423_13
                 replace p423 := eq_true p423
                 replace q423 := eq_true q423
                 go_upto_if 147 with (fail)
                 have H := HC29.out
                 clear HC29
                 by_cases c30 : ((rd_T36 l0 x5_1).f1.f1) = (wrap64 ((wrap64 ((wrap64 ((wrap64 ((wrap64 ((wrap64 ((wrap64 ((wrap64 ((wrap64 ((wrap64 ((wrap64 ((wrap64 (x1_1 + 1)) + 1)) + 1)) + 1)) + 1)) + 1)) + 1)) + 1)) + 1)) + 1)) + 1)) + 1))
                 ·rw [if_pos c30] at H
                  have c30b0 : (((rd_T36 l0 x5_1).f1.f1) == (wrap64 ((wrap64 ((wrap64 ((wrap64 ((wrap64 ((wrap64 ((wrap64 ((wrap64 ((wrap64 ((wrap64 ((wrap64 ((wrap64 (x1_1 + 1)) + 1)) + 1)) + 1)) + 1)) + 1)) + 1)) + 1)) + 1)) + 1)) + 1)) + 1))) = true := beq_iff_eq.mpr c30
                  have c30b1 : (((rd_T36 l0 x5_1).f1.f1) != (wrap64 ((wrap64 ((wrap64 ((wrap64 ((wrap64 ((wrap64 ((wrap64 ((wrap64 ((wrap64 ((wrap64 ((wrap64 ((wrap64 (x1_1 + 1)) + 1)) + 1)) + 1)) + 1)) + 1)) + 1)) + 1)) + 1)) + 1)) + 1)) + 1))) = false := bne_eq_false_iff_eq.mpr c30
                  clear c30
                  (first | rw [c30b0] | (simp only [i64_w, i32_w]; rw [c30b0]) | skip)
                  obtain ⟨t425, A31, H⟩ := bindE_ H
                  have HC32 := Aside0.mk H
                  clear H
                  have p424 : 0 ≤ (x5_1 : Int) := of_decide_eq_true (by first | (with_reducible assumption) | assumption)
                  have q424 : x5_1 < (l0.length : Int) := of_decide_eq_true (by first | (with_reducible assumption) | assumption)
                  obtain ⟨ad424, A424_13, c424_13, e424, hx424_0, hx424_1, hx424_2, hx424_3, hx424_4, hx424_5, hx424_6, hx424_7, hx424_8, hx424_9, hx424_10, hx424_11, hx424_12, hx424_13, hl424_13, hi424_13⟩ := at_T36 HR0.out x5_1 p424 q424
                  obtain rfl : ad411 = ad424 := (by injection e424)
                  have HR424_13 := Aside0.mk hi424_13
                  have HC424_13 := Aside0.mk hl424_13
                  clear hi424_13 hl424_13
                  replace p424 := eq_true p424
                  replace q424 := eq_true q424
                  go_upto_if 158 with (first | ((with_reducible refine gate_callee (f := 14) rfl ?_); refine goesC_ (some 156) Try.func14 #[.slice A411_13 ((rd_T36 l0 x5_1).f2).length c411_13, .int .i64 (wrap64 ((wrap64 ((wrap64 ((wrap64 ((wrap64 ((wrap64 ((wrap64 ((wrap64 ((wrap64 ((wrap64 ((wrap64 ((wrap64 ((wrap64 (x1_1 + 1)) + 1)) + 1)) + 1)) + 1)) + 1)) + 1)) + 1)) + 1)) + 1)) + 1)) + 1)) + 1))] ?_; (with_reducible refine (laws_heldIntS.calls k1 _ _ ((rd_T36 l0 x5_1).f2) (wrap64 ((wrap64 ((wrap64 ((wrap64 ((wrap64 ((wrap64 ((wrap64 ((wrap64 ((wrap64 ((wrap64 ((wrap64 ((wrap64 ((wrap64 (x1_1 + 1)) + 1)) + 1)) + 1)) + 1)) + 1)) + 1)) + 1)) + 1)) + 1)) + 1)) + 1)) + 1)) t425 _ ?side1 ?side2 A31.out).mono ?_); (case side1 => repeat (first | exact HR411_13.out | (with_reducible refine Kd.C_alloc ?_ _) | (with_reducible refine Kd.C_drewN ?_ _) | (with_reducible refine Kd.C_drew ?_))); (case side2 => exact HC411_13.out); rintro e w' ⟨rfl, ⟨nd, rfl⟩⟩; refine ⟨_, rfl, ?_⟩))
                  (try simp only [Act.put, List.setIfInBounds_toArray, List.set_cons_zero, List.set_cons_succ])
                  have H := HC32.out
                  clear HC32
                  by_cases c33 : t425 < 0
                  ·rw [if_pos c33] at H
                   have c33b0 : decide (t425 < 0) = true := decide_eq_true c33
                   clear c33
                   (first | rw [c33b0] | (simp only [i64_w, i32_w]; rw [c33b0]) | skip)
                   obtain rfl := Option.some.inj H
                   go_wp2
                   go_ret
                   exact ⟨by first | rfl | (simp; done) | (simp [*]; done), by repeat (first | exact Drawn0.refl _ | apply Drawn0.step)⟩
                  ·rw [if_neg c33] at H
                   have c33b0 : decide (t425 < 0) = false := decide_eq_false c33
                   clear c33
                   (first | rw [c33b0] | (simp only [i64_w, i32_w]; rw [c33b0]) | skip)
                   have H' := Aside0.mk H
                   clear H
                   go_wp2
                   go_roundg k1
                   case measure => have := HK1.out; omega
                   case rel => exact ⟨(t425), (wrap64 (x5_1 + 1)), (by first | rfl | (simp; done) | (simp [*]; done)), (by first | rfl | (simp; done) | (simp [*]; done)), H', ⟨by have := HK1.out; omega⟩, by repeat (first | exact Drawn0.refl _ | apply Drawn0.step)⟩
                 ·rw [if_neg c30] at H
                  have c30b0 : (((rd_T36 l0 x5_1).f1.f1) == (wrap64 ((wrap64 ((wrap64 ((wrap64 ((wrap64 ((wrap64 ((wrap64 ((wrap64 ((wrap64 ((wrap64 ((wrap64 ((wrap64 (x1_1 + 1)) + 1)) + 1)) + 1)) + 1)) + 1)) + 1)) + 1)) + 1)) + 1)) + 1)) + 1))) = false := beq_eq_false_iff_ne.mpr c30
                  have c30b1 : (((rd_T36 l0 x5_1).f1.f1) != (wrap64 ((wrap64 ((wrap64 ((wrap64 ((wrap64 ((wrap64 ((wrap64 ((wrap64 ((wrap64 ((wrap64 ((wrap64 ((wrap64 (x1_1 + 1)) + 1)) + 1)) + 1)) + 1)) + 1)) + 1)) + 1)) + 1)) + 1)) + 1)) + 1))) = true := bne_iff_ne.mpr c30
                  (first | rw [c30b0] | (simp only [i64_w, i32_w]; rw [c30b0]) | skip)
                  obtain rfl := Option.some.inj H
                  go_wp2
                  go_ret
                  exact ⟨by first | rfl | (simp; done) | (simp [*]; done), by repeat (first | exact Drawn0.refl _ | apply Drawn0.step)⟩
                ·rw [if_neg c28] at H
                 have c28b0 : (((rd_T36 l0 x5_1).f1.f0.f1) == (wrap64 ((wrap64 ((wrap64 ((wrap64 ((wrap64 ((wrap64 ((wrap64 ((wrap64 ((wrap64 ((wrap64 ((wrap64 (x1_1 + 1)) + 1)) + 1)) + 1)) + 1)) + 1)) + 1)) + 1)) + 1)) + 1)) + 1))) = false := beq_eq_false_iff_ne.mpr c28
                 have c28b1 : (((rd_T36 l0 x5_1).f1.f0.f1) != (wrap64 ((wrap64 ((wrap64 ((wrap64 ((wrap64 ((wrap64 ((wrap64 ((wrap64 ((wrap64 ((wrap64 ((wrap64 (x1_1 + 1)) + 1)) + 1)) + 1)) + 1)) + 1)) + 1)) + 1)) + 1)) + 1)) + 1))) = true := bne_iff_ne.mpr c28
                 (first | rw [c28b0] | (simp only [i64_w, i32_w]; rw [c28b0]) | skip)
                 obtain rfl := Option.some.inj H
                 go_wp2
                 go_ret
                 exact ⟨by first | rfl | (simp; done) | (simp [*]; done), by repeat (first | exact Drawn0.refl _ | apply Drawn0.step)⟩
               ·rw [if_neg c26] at H
                have c26b0 : (((rd_T36 l0 x5_1).f1.f0.f0) == (wrap64 ((wrap64 ((wrap64 ((wrap64 ((wrap64 ((wrap64 ((wrap64 ((wrap64 ((wrap64 ((wrap64 (x1_1 + 1)) + 1)) + 1)) + 1)) + 1)) + 1)) + 1)) + 1)) + 1)) + 1))) = false := beq_eq_false_iff_ne.mpr c26
                have c26b1 : (((rd_T36 l0 x5_1).f1.f0.f0) != (wrap64 ((wrap64 ((wrap64 ((wrap64 ((wrap64 ((wrap64 ((wrap64 ((wrap64 ((wrap64 ((wrap64 (x1_1 + 1)) + 1)) + 1)) + 1)) + 1)) + 1)) + 1)) + 1)) + 1)) + 1))) = true := bne_iff_ne.mpr c26
                (first | rw [c26b0] | (simp only [i64_w, i32_w]; rw [c26b0]) | skip)
                obtain rfl := Option.some.inj H
                go_wp2
                go_ret
                exact ⟨by first | rfl | (simp; done) | (simp [*]; done), by repeat (first | exact Drawn0.refl _ | apply Drawn0.step)⟩
              ·rw [if_neg c24] at H
               have c24b0 : (((rd_T36 l0 x5_1).f0.f6) == (wrap64 ((wrap64 ((wrap64 ((wrap64 ((wrap64 ((wrap64 ((wrap64 ((wrap64 ((wrap64 (x1_1 + 1)) + 1)) + 1)) + 1)) + 1)) + 1)) + 1)) + 1)) + 1))) = false := beq_eq_false_iff_ne.mpr c24
               have c24b1 : (((rd_T36 l0 x5_1).f0.f6) != (wrap64 ((wrap64 ((wrap64 ((wrap64 ((wrap64 ((wrap64 ((wrap64 ((wrap64 ((wrap64 (x1_1 + 1)) + 1)) + 1)) + 1)) + 1)) + 1)) + 1)) + 1)) + 1))) = true := bne_iff_ne.mpr c24
               (first | rw [c24b0] | (simp only [i64_w, i32_w]; rw [c24b0]) | skip)
               obtain rfl := Option.some.inj H
               go_wp2
               go_ret
               exact ⟨by first | rfl | (simp; done) | (simp [*]; done), by repeat (first | exact Drawn0.refl _ | apply Drawn0.step)⟩
             ·rw [if_neg c22] at H
              have c22b0 : (((rd_T36 l0 x5_1).f0.f5) == (wrap64 ((wrap64 ((wrap64 ((wrap64 ((wrap64 ((wrap64 ((wrap64 ((wrap64 (x1_1 + 1)) + 1)) + 1)) + 1)) + 1)) + 1)) + 1)) + 1))) = false := beq_eq_false_iff_ne.mpr c22
              have c22b1 : (((rd_T36 l0 x5_1).f0.f5) != (wrap64 ((wrap64 ((wrap64 ((wrap64 ((wrap64 ((wrap64 ((wrap64 ((wrap64 (x1_1 + 1)) + 1)) + 1)) + 1)) + 1)) + 1)) + 1)) + 1))) = true := bne_iff_ne.mpr c22
              (first | rw [c22b0] | (simp only [i64_w, i32_w]; rw [c22b0]) | skip)
              obtain rfl := Option.some.inj H
              go_wp2
              go_ret
              exact ⟨by first | rfl | (simp; done) | (simp [*]; done), by repeat (first | exact Drawn0.refl _ | apply Drawn0.step)⟩
            ·rw [if_neg c20] at H
             have c20b0 : (((rd_T36 l0 x5_1).f0.f4.f1) == (wrap64 ((wrap64 ((wrap64 ((wrap64 ((wrap64 ((wrap64 ((wrap64 (x1_1 + 1)) + 1)) + 1)) + 1)) + 1)) + 1)) + 1))) = false := beq_eq_false_iff_ne.mpr c20
             have c20b1 : (((rd_T36 l0 x5_1).f0.f4.f1) != (wrap64 ((wrap64 ((wrap64 ((wrap64 ((wrap64 ((wrap64 ((wrap64 (x1_1 + 1)) + 1)) + 1)) + 1)) + 1)) + 1)) + 1))) = true := bne_iff_ne.mpr c20
             (first | rw [c20b0] | (simp only [i64_w, i32_w]; rw [c20b0]) | skip)
             obtain rfl := Option.some.inj H
             go_wp2
             go_ret
             exact ⟨by first | rfl | (simp; done) | (simp [*]; done), by repeat (first | exact Drawn0.refl _ | apply Drawn0.step)⟩
           ·rw [if_neg c18] at H
            have c18b0 : (((rd_T36 l0 x5_1).f0.f4.f0) == (wrap64 ((wrap64 ((wrap64 ((wrap64 ((wrap64 ((wrap64 (x1_1 + 1)) + 1)) + 1)) + 1)) + 1)) + 1))) = false := beq_eq_false_iff_ne.mpr c18
            have c18b1 : (((rd_T36 l0 x5_1).f0.f4.f0) != (wrap64 ((wrap64 ((wrap64 ((wrap64 ((wrap64 ((wrap64 (x1_1 + 1)) + 1)) + 1)) + 1)) + 1)) + 1))) = true := bne_iff_ne.mpr c18
            (first | rw [c18b0] | (simp only [i64_w, i32_w]; rw [c18b0]) | skip)
            obtain rfl := Option.some.inj H
            go_wp2
            go_ret
            exact ⟨by first | rfl | (simp; done) | (simp [*]; done), by repeat (first | exact Drawn0.refl _ | apply Drawn0.step)⟩
          ·rw [if_neg c16] at H
           have c16b0 : (((rd_T36 l0 x5_1).f0.f3.f1) == (wrap64 ((wrap64 ((wrap64 ((wrap64 ((wrap64 (x1_1 + 1)) + 1)) + 1)) + 1)) + 1))) = false := beq_eq_false_iff_ne.mpr c16
           have c16b1 : (((rd_T36 l0 x5_1).f0.f3.f1) != (wrap64 ((wrap64 ((wrap64 ((wrap64 ((wrap64 (x1_1 + 1)) + 1)) + 1)) + 1)) + 1))) = true := bne_iff_ne.mpr c16
           (first | rw [c16b0] | (simp only [i64_w, i32_w]; rw [c16b0]) | skip)
           obtain rfl := Option.some.inj H
           go_wp2
           go_ret
           exact ⟨by first | rfl | (simp; done) | (simp [*]; done), by repeat (first | exact Drawn0.refl _ | apply Drawn0.step)⟩
         ·rw [if_neg c14] at H
          have c14b0 : (((rd_T36 l0 x5_1).f0.f3.f0) == (wrap64 ((wrap64 ((wrap64 ((wrap64 (x1_1 + 1)) + 1)) + 1)) + 1))) = false := beq_eq_false_iff_ne.mpr c14
          have c14b1 : (((rd_T36 l0 x5_1).f0.f3.f0) != (wrap64 ((wrap64 ((wrap64 ((wrap64 (x1_1 + 1)) + 1)) + 1)) + 1))) = true := bne_iff_ne.mpr c14
          (first | rw [c14b0] | (simp only [i64_w, i32_w]; rw [c14b0]) | skip)
          obtain rfl := Option.some.inj H
          go_wp2
          go_ret
          exact ⟨by first | rfl | (simp; done) | (simp [*]; done), by repeat (first | exact Drawn0.refl _ | apply Drawn0.step)⟩
        ·rw [if_neg c12] at H
         have c12b0 : (((rd_T36 l0 x5_1).f0.f2) == (wrap64 ((wrap64 ((wrap64 (x1_1 + 1)) + 1)) + 1))) = false := beq_eq_false_iff_ne.mpr c12
         have c12b1 : (((rd_T36 l0 x5_1).f0.f2) != (wrap64 ((wrap64 ((wrap64 (x1_1 + 1)) + 1)) + 1))) = true := bne_iff_ne.mpr c12
         (first | rw [c12b0] | (simp only [i64_w, i32_w]; rw [c12b0]) | skip)
         obtain rfl := Option.some.inj H
         go_wp2
         go_ret
         exact ⟨by first | rfl | (simp; done) | (simp [*]; done), by repeat (first | exact Drawn0.refl _ | apply Drawn0.step)⟩
       ·rw [if_neg c10] at H
        have c10b0 : (((rd_T36 l0 x5_1).f0.f1.f1) == (wrap64 ((wrap64 (x1_1 + 1)) + 1))) = false := beq_eq_false_iff_ne.mpr c10
        have c10b1 : (((rd_T36 l0 x5_1).f0.f1.f1) != (wrap64 ((wrap64 (x1_1 + 1)) + 1))) = true := bne_iff_ne.mpr c10
        (first | rw [c10b0] | (simp only [i64_w, i32_w]; rw [c10b0]) | skip)
        obtain rfl := Option.some.inj H
        go_wp2
        go_ret
        exact ⟨by first | rfl | (simp; done) | (simp [*]; done), by repeat (first | exact Drawn0.refl _ | apply Drawn0.step)⟩
      ·rw [if_neg c8] at H
       have c8b0 : (((rd_T36 l0 x5_1).f0.f1.f0) == (wrap64 (x1_1 + 1))) = false := beq_eq_false_iff_ne.mpr c8
       have c8b1 : (((rd_T36 l0 x5_1).f0.f1.f0) != (wrap64 (x1_1 + 1))) = true := bne_iff_ne.mpr c8
       (first | rw [c8b0] | (simp only [i64_w, i32_w]; rw [c8b0]) | skip)
       obtain rfl := Option.some.inj H
       go_wp2
       go_ret
       exact ⟨by first | rfl | (simp; done) | (simp [*]; done), by repeat (first | exact Drawn0.refl _ | apply Drawn0.step)⟩
     ·rw [if_neg c6] at H
      have c6b0 : (((rd_T36 l0 x5_1).f0.f0) == x1_1) = false := beq_eq_false_iff_ne.mpr c6
      have c6b1 : (((rd_T36 l0 x5_1).f0.f0) != x1_1) = true := bne_iff_ne.mpr c6
      (first | rw [c6b0] | (simp only [i64_w, i32_w]; rw [c6b0]) | skip)
      obtain rfl := Option.some.inj H
      go_wp2
      go_ret
      exact ⟨by first | rfl | (simp; done) | (simp [*]; done), by repeat (first | exact Drawn0.refl _ | apply Drawn0.step)⟩
    ·rw [if_neg c4] at H
     exact absurd H (by simp)
   ·rw [if_neg c3] at H
    have c3b0 : decide (x5_1 < (l0.length : Int)) = false := decide_eq_false c3
    clear c3
    obtain rfl := Option.some.inj H
    go_wp2
    go_ret
    exact ⟨by first | rfl | (simp; done) | (simp [*]; done), by repeat (first | exact Drawn0.refl _ | apply Drawn0.step)⟩
mutual
def laws_FnExactReadProof.j0 : Nat → ByteArray → List (S36) → Bool → List (S36) → Bool → Option (Bool)
 | 0, _, _, _, _, _ => none
 | k + 1, x0, x3, x4, x5, x32 => if x32 = true then (some false) else ((laws_markStepS.f k x5 1).bind fun bt435 => ((laws_heldStepS.f k bt435.2 1).bind fun t436 => (if t436 < 0 then (some false) else (if t436 = bt435.1 then ((impl_ReadProof.f k x0).bind fun bt437 => ((laws_eqStepS.f k bt437.1 x3).bind fun t441 => (if t441 = true then (laws_FnExactReadProof.j1 k bt435.2 bt435.1 (bt437.2 != x4)) else (laws_FnExactReadProof.j1 k bt435.2 bt435.1 true)))) else (some false)))))
def laws_FnExactReadProof.j1 : Nat → List (S36) → Int → Bool → Option (Bool)
 | 0, _, _, _ => none
 | k + 1, x5, x7, x57 => if x57 = true then (some false) else ((laws_heldStepS.f k x5 1).bind fun t442 => (if t442 < 0 then (some false) else (if t442 = x7 then (some true) else (some false))))
end
def laws_FnExactReadProof.f (k : Nat) (a0 : ByteArray) : Option (Bool) := if (a0.size : Int) > 1048576 then (some true) else ((spec_ReadProof.f k a0).bind fun bt426 => ((impl_ReadProof.f k a0).bind fun bt430 => ((laws_eqStepS.f k bt430.1 bt426.1).bind fun t434 => (if t434 = true then (laws_FnExactReadProof.j0 k a0 bt426.1 bt426.2 bt430.1 (bt430.2 != bt426.2)) else (laws_FnExactReadProof.j0 k a0 bt426.1 bt426.2 bt430.1 true)))))
set_option maxHeartbeats 8000000 in
set_option maxRecDepth 100000 in
theorem laws_FnExactReadProof.calls (k : Nat) (a0 : ByteArray) (r : Bool) (w : World) (hr_ : r = true) (h : laws_FnExactReadProof.f k a0 = some r) :
  Calls Try.prog 3 #[.string a0] w fun e w' => e = .returned (.bool r) ∧ Below w.heap.size w w' := by
 have HB := Aside0.mk (Below.refl w.heap.size w)
 have H : (if (a0.size : Int) > 1048576 then (some true) else ((spec_ReadProof.f k a0).bind fun bt426 => ((impl_ReadProof.f k a0).bind fun bt430 => ((laws_eqStepS.f k bt430.1 bt426.1).bind fun t434 => (if t434 = true then (laws_FnExactReadProof.j0 k a0 bt426.1 bt426.2 bt430.1 (bt430.2 != bt426.2)) else (laws_FnExactReadProof.j0 k a0 bt426.1 bt426.2 bt430.1 true)))))) = some r := h
 clear h
 by_cases c2 : (a0.size : Int) > 1048576
 ·rw [if_pos c2] at H
  have c2b0 : decide (1048576 < (a0.size : Int)) = true := decide_eq_true c2
  have c2b1 : decide (1048576 < a0.size) = true := decide_eq_true (by omega)
  clear c2
  obtain rfl := Option.some.inj H
  go_enter Try.func3, Try.ntmps3
  go_wp2
  go_ret
  exact ⟨eq_, bl_⟩
 ·rw [if_neg c2] at H
  have c2b0 : decide (1048576 < (a0.size : Int)) = false := decide_eq_false c2
  have c2b1 : decide (1048576 < a0.size) = false := decide_eq_false (by omega)
  clear c2
  obtain ⟨⟨t426, t427⟩, A3, H⟩ := bindE_ H
  replace H : ((impl_ReadProof.f k a0).bind fun bt430 => ((laws_eqStepS.f k bt430.1 t426).bind fun t434 => (if t434 = true then (laws_FnExactReadProof.j0 k a0 t426 t427 bt430.1 (bt430.2 != t427)) else (laws_FnExactReadProof.j0 k a0 t426 t427 bt430.1 true)))) = some r := H
  obtain ⟨⟨t430, t431⟩, A4, H⟩ := bindE_ H
  replace H : ((laws_eqStepS.f k t430 t426).bind fun t434 => (if t434 = true then (laws_FnExactReadProof.j0 k a0 t426 t427 t430 (t431 != t427)) else (laws_FnExactReadProof.j0 k a0 t426 t427 t430 true))) = some r := H
  have HC5 := Aside0.mk H
  clear H
  go_enter Try.func3, Try.ntmps3
  go_upto_region 5 with (first | ((with_reducible refine gate_callee (f := 4) rfl ?_); refine goesC_ (some 16) Try.func4 #[.string a0] ?_; (with_reducible refine (spec_ReadProof.calls k a0 t426 t427 _ A3.out).mono ?_); rintro e w6 ⟨v428, rfl, ho0, hb⟩; refine ⟨_, rfl, ?_⟩; have H3 := Aside0.mk ho0; have HBw := hbs_ hb; have HO429 := Aside0.mk (Kd.S_lower ho0 bls_); replace HB := hbs_ hb; (try clear hb); (try clear hb2); (try clear hk); (try clear hi); (try clear ho0)) | ((with_reducible refine gate_callee (f := 5) rfl ?_); refine goesC_ (some 21) Try.func5 #[.string a0] ?_; (with_reducible refine (impl_ReadProof.calls k a0 t430 t431 _ A4.out).mono ?_); rintro e w7 ⟨v432, rfl, ho0, hb⟩; refine ⟨_, rfl, ?_⟩; have HG := (show Aside0 (Kd.S k36 36 w7 w6.heap.size (fun _ => True) v432 t430) from Aside0.mk ho0); have HB6 := (show Aside0 (Below w6.heap.size w6 w7) from by have HB := Aside0.mk (Below.refl w6.heap.size w6); exact hbs_ hb); have HO433 := Aside0.mk (Kd.S_lower (Kd.S_new' ho0 (Kd.S_lt (by (with_reducible repeat (first | apply Kd.S_alloc | apply Kd.S_drewN | apply Kd.S_drew)); exact HO429.out))) bls_); replace HO429 := Aside0.mk (Kd.S_elder' (by (with_reducible repeat (first | apply Kd.S_alloc | apply Kd.S_drewN | apply Kd.S_drew)); exact HO429.out) (Kd.S_base ho0) hb); replace HB := hbs_ hb; (try clear hb); (try clear hb2); (try clear hk); (try clear hi); (try clear ho0)))
  (try simp only [Act.put, List.setIfInBounds_toArray, List.set_cons_zero, List.set_cons_succ])
  go_cut [32] (fun v32 wc => ∃ (kq : Nat) (x32_4 : Bool), v32 = .bool x32_4 ∧ Aside0 (laws_FnExactReadProof.j0 kq a0 t426 t427 t430 x32_4 = some r) ∧ Aside0 (kq ≤ k) ∧ Aside0 (Kd.S k36 36 wc w.heap.size (fun k_ => some k_ ≠ (v432 : Value).ownBlock) v428 t426) ∧ Aside0 (Kd.S k36 36 wc w.heap.size (fun k_ => some k_ ≠ (v428 : Value).ownBlock) v432 t430) ∧ Aside0 (Below w.heap.size w wc) ∧ Aside0 (Kd.S k36 36 wc w6.heap.size (fun _ => True) v432 t430) ∧ Aside0 (Below w6.heap.size w6 wc))
  case first =>
   have H := HC5.out
   clear HC5
   obtain ⟨t434, A8, H⟩ := bindE_ H
   by_cases c9 : t434 = true
   ·subst c9
    replace H := ite_t_ H
    have H' := Aside0.mk H
    clear H
    obtain ⟨Ao10, co10, eo10⟩ := Kd.S_slice HO433.out
    subst eo10
    obtain ⟨Ao11, co11, eo11⟩ := Kd.S_slice HO429.out
    subst eo11
    go_wp2_with (first | ((with_reducible refine gate_callee (f := 6) rfl ?_); refine goesC_ (some 26) Try.func6 #[.slice Ao10 t430.length co10, .slice Ao11 t426.length co11] ?_; (with_reducible refine (laws_eqStepS.calls k _ _ t430 _ _ t426 true _ ?side1 ?side2 ?side3 ?side4 A8.out).mono ?_); (case side1 => repeat (first | exact (Kd.S_reads' HO433.out).2.2 | (with_reducible refine Kd.C_alloc ?_ _) | (with_reducible refine Kd.C_drewN ?_ _) | (with_reducible refine Kd.C_drew ?_))); (case side2 => exact (Kd.S_reads' HO433.out).2.1); (case side3 => repeat (first | exact (Kd.S_reads' HO429.out).2.2 | (with_reducible refine Kd.C_alloc ?_ _) | (with_reducible refine Kd.C_drewN ?_ _) | (with_reducible refine Kd.C_drew ?_))); (case side4 => exact (Kd.S_reads' HO429.out).2.1); rintro e w12 ⟨rfl, hb⟩; refine ⟨_, rfl, ?_⟩; replace HO429 := Aside0.mk (Kd.S_below (by (with_reducible repeat (first | apply Kd.S_alloc | apply Kd.S_drewN | apply Kd.S_drew)); exact HO429.out) hb); replace HO433 := Aside0.mk (Kd.S_below (by (with_reducible repeat (first | apply Kd.S_alloc | apply Kd.S_drewN | apply Kd.S_drew)); exact HO433.out) hb); replace HG := Aside0.mk (Kd.S_below (by (with_reducible repeat (first | apply Kd.S_alloc | apply Kd.S_drewN | apply Kd.S_drew)); exact HG.out) hb); replace HB6 := (show Aside0 (Below w6.heap.size w6 w12) from by have HB := HB6; exact hbs_ hb); replace HB := hbs_ hb; clear hb))
    go_meet
    case rel => exact ⟨_, ((t431 != t427)), (by first | rfl | (simp; done) | (simp [*]; done)), H', ⟨by first | omega | exact Nat.le_refl _⟩, ⟨by (with_reducible repeat (first | apply Kd.S_alloc | apply Kd.S_drewN | apply Kd.S_drew)); exact Kd.S_mono HO429.out (fun _ hk => hk.2)⟩, ⟨by (with_reducible repeat (first | apply Kd.S_alloc | apply Kd.S_drewN | apply Kd.S_drew)); exact Kd.S_mono HO433.out (fun _ hk => hk.2)⟩, ⟨bl_⟩, ⟨by (with_reducible repeat (first | apply Kd.S_alloc | apply Kd.S_drewN | apply Kd.S_drew)); exact HG.out⟩, ⟨by have HB := HB6; exact bl_⟩⟩
   ·replace c9 := Bool.eq_false_iff.mpr c9
    subst c9
    replace H := ite_f_ H
    have H' := Aside0.mk H
    clear H
    obtain ⟨Ao13, co13, eo13⟩ := Kd.S_slice HO433.out
    subst eo13
    obtain ⟨Ao14, co14, eo14⟩ := Kd.S_slice HO429.out
    subst eo14
    go_wp2_with (first | ((with_reducible refine gate_callee (f := 6) rfl ?_); refine goesC_ (some 26) Try.func6 #[.slice Ao13 t430.length co13, .slice Ao14 t426.length co14] ?_; (with_reducible refine (laws_eqStepS.calls k _ _ t430 _ _ t426 false _ ?side1 ?side2 ?side3 ?side4 A8.out).mono ?_); (case side1 => repeat (first | exact (Kd.S_reads' HO433.out).2.2 | (with_reducible refine Kd.C_alloc ?_ _) | (with_reducible refine Kd.C_drewN ?_ _) | (with_reducible refine Kd.C_drew ?_))); (case side2 => exact (Kd.S_reads' HO433.out).2.1); (case side3 => repeat (first | exact (Kd.S_reads' HO429.out).2.2 | (with_reducible refine Kd.C_alloc ?_ _) | (with_reducible refine Kd.C_drewN ?_ _) | (with_reducible refine Kd.C_drew ?_))); (case side4 => exact (Kd.S_reads' HO429.out).2.1); rintro e w15 ⟨rfl, hb⟩; refine ⟨_, rfl, ?_⟩; replace HO429 := Aside0.mk (Kd.S_below (by (with_reducible repeat (first | apply Kd.S_alloc | apply Kd.S_drewN | apply Kd.S_drew)); exact HO429.out) hb); replace HO433 := Aside0.mk (Kd.S_below (by (with_reducible repeat (first | apply Kd.S_alloc | apply Kd.S_drewN | apply Kd.S_drew)); exact HO433.out) hb); replace HG := Aside0.mk (Kd.S_below (by (with_reducible repeat (first | apply Kd.S_alloc | apply Kd.S_drewN | apply Kd.S_drew)); exact HG.out) hb); replace HB6 := (show Aside0 (Below w6.heap.size w6 w15) from by have HB := HB6; exact hbs_ hb); replace HB := hbs_ hb; clear hb))
    go_meet
    case rel => exact ⟨_, (true), (by first | rfl | (simp; done) | (simp [*]; done)), H', ⟨by first | omega | exact Nat.le_refl _⟩, ⟨by (with_reducible repeat (first | apply Kd.S_alloc | apply Kd.S_drewN | apply Kd.S_drew)); exact Kd.S_mono HO429.out (fun _ hk => hk.2)⟩, ⟨by (with_reducible repeat (first | apply Kd.S_alloc | apply Kd.S_drewN | apply Kd.S_drew)); exact Kd.S_mono HO433.out (fun _ hk => hk.2)⟩, ⟨bl_⟩, ⟨by (with_reducible repeat (first | apply Kd.S_alloc | apply Kd.S_drewN | apply Kd.S_drew)); exact HG.out⟩, ⟨by have HB := HB6; exact bl_⟩⟩
  case rest =>
   clear HC5
   try clear c2
   try clear c2b0
   try clear c2b1
   try clear p2
   try clear c3
   try clear c4
   try clear c5
   try clear c6
   try clear c9
   obtain ⟨kq, x32_4, rfl, HA, HJ4, HO_3, HO_5, HB, HG, HB6⟩ := hcut
   cases kq with
   | zero => exact absurd HA.out (by simp [laws_FnExactReadProof.j0])
   | succ kj4 =>
    have H := HA.out
    clear HA
    simp only [laws_FnExactReadProof.j0] at H
    by_cases c16 : x32_4 = true
    ·subst c16
     replace H := ite_t_ H
     exact absurd (Option.some.inj (H.trans (congrArg some hr_))) (by decide)
    ·replace c16 := Bool.eq_false_iff.mpr c16
     subst c16
     replace H := ite_f_ H
     obtain ⟨⟨t435, tl_⟩, A17, H⟩ := bindE_ H
     dsimp only at H
     obtain ⟨t436, A18, H⟩ := bindE_ H
     have HC19 := Aside0.mk H
     clear H
     obtain ⟨Ao20, co20, eo20⟩ := Kd.S_slice HO_5.out
     subst eo20
     go_upto_if 40 with (first | ((with_reducible refine gate_callee (f := 7) rfl ?_); refine goesC_ (some 35) Try.func7 #[.slice Ao20 t430.length co20, .int .i64 1] ?_; (with_reducible refine (laws_markStepS.calls kj4 (fun _ => True) (.slice Ao20 t430.length co20) t430 1 t435 tl_ w6 _ ?sideB ?sideS A17.out).mono ?_); (case sideB => (have HB := HB6; exact bl_)); (case sideS => ((with_reducible repeat (first | apply Kd.S_alloc | apply Kd.S_drewN | apply Kd.S_drew)); exact HG.out)); rintro e w24 ⟨rfl, hS, hBz, hKz⟩; refine ⟨_, rfl, ?_⟩; replace HG := Aside0.mk (Kd.S_mono (ok' := fun _ => True) hS (fun _ _ => trivial)); replace HO_3 := Aside0.mk (Kd.S_below H3.out hBz); replace HO_5 := Aside0.mk (Kd.S_lower HG.out (by have HB := HBw; exact bls_ : w.heap.size ≤ w6.heap.size)); replace HB := (show Aside0 (Below w.heap.size w w24) from by have HB := HBw; exact hbs_ hBz); clear hKz hBz hS; obtain ⟨Ao23, co23, eo23⟩ := Kd.S_slice HO_5.out; (injection eo23 with ea_ eL_ ec_); rw [eL_]; rw [eL_] at HO_5; clear ea_ ec_ Ao23 co23; clear HG HB6 H3 HBw) | ((with_reducible refine gate_callee (f := 8) rfl ?_); refine goesC_ (some 38) Try.func8 #[.slice Ao20 tl_.length co20, .int .i64 1] ?_; (with_reducible refine (laws_heldStepS.calls kj4 _ _ tl_ 1 t436 _ ?side1 ?side2 A18.out).mono ?_); (case side1 => repeat (first | exact (Kd.S_reads' HO_5.out).2.2 | (with_reducible refine Kd.C_alloc ?_ _) | (with_reducible refine Kd.C_drewN ?_ _) | (with_reducible refine Kd.C_drew ?_))); (case side2 => exact (Kd.S_reads' HO_5.out).2.1); rintro e w' ⟨rfl, ⟨nd, rfl⟩⟩; refine ⟨_, rfl, ?_⟩))
     (try simp only [Act.put, List.setIfInBounds_toArray, List.set_cons_zero, List.set_cons_succ])
     have H := HC19.out
     clear HC19
     by_cases c22 : t436 < 0
     ·rw [if_pos c22] at H
      have c22b0 : decide (t436 < 0) = true := decide_eq_true c22
      clear c22
      (first | rw [c22b0] | (simp only [i64_w, i32_w]; rw [c22b0]) | skip)
      exact absurd (Option.some.inj (H.trans (congrArg some hr_))) (by decide)
     ·rw [if_neg c22] at H
      have c22b0 : decide (t436 < 0) = false := decide_eq_false c22
      clear c22
      (first | rw [c22b0] | (simp only [i64_w, i32_w]; rw [c22b0]) | skip)
      by_cases c23 : t436 = t435
      ·rw [if_pos c23] at H
       have c23b0 : (t436 == t435) = true := beq_iff_eq.mpr c23
       have c23b1 : (t436 != t435) = false := bne_eq_false_iff_eq.mpr c23
       clear c23
       obtain ⟨⟨t437, t438⟩, A24, H⟩ := bindE_ H
       replace H : ((laws_eqStepS.f kj4 t437 t426).bind fun t441 => (if t441 = true then (laws_FnExactReadProof.j1 kj4 tl_ t435 (t438 != t427)) else (laws_FnExactReadProof.j1 kj4 tl_ t435 true))) = some r := H
       have HC25 := Aside0.mk H
       clear H
       go_upto_region 16 with (first | ((with_reducible refine gate_callee (f := 5) rfl ?_); refine goesC_ (some 46) Try.func5 #[.string a0] ?_; (with_reducible refine (impl_ReadProof.calls kj4 a0 t437 t438 _ A24.out).mono ?_); rintro e w26 ⟨v439, rfl, ho0, hb⟩; refine ⟨_, rfl, ?_⟩; have HO440 := Aside0.mk (Kd.S_lower (Kd.S_new' (Kd.S_new' ho0 (Kd.S_lt (by (with_reducible repeat (first | apply Kd.S_alloc | apply Kd.S_drewN | apply Kd.S_drew)); exact HO_3.out))) (Kd.S_lt (by (with_reducible repeat (first | apply Kd.S_alloc | apply Kd.S_drewN | apply Kd.S_drew)); exact HO_5.out))) bls_); replace HO_3 := Aside0.mk (Kd.S_elder' (by (with_reducible repeat (first | apply Kd.S_alloc | apply Kd.S_drewN | apply Kd.S_drew)); exact HO_3.out) (Kd.S_base ho0) hb); replace HO_5 := Aside0.mk (Kd.S_elder' (by (with_reducible repeat (first | apply Kd.S_alloc | apply Kd.S_drewN | apply Kd.S_drew)); exact HO_5.out) (Kd.S_base ho0) hb); replace HB := hbs_ hb; (try clear hb); (try clear hb2); (try clear hk); (try clear hi); (try clear ho0)))
       (try simp only [Act.put, List.setIfInBounds_toArray, List.set_cons_zero, List.set_cons_succ])
       go_cut [57] (fun v57 wc => ∃ (kq : Nat) (x57_24 : Bool), v57 = .bool x57_24 ∧ Aside0 (laws_FnExactReadProof.j1 kq tl_ t435 x57_24 = some r) ∧ Aside0 (kq ≤ kj4) ∧ Aside0 (Kd.S k36 36 wc w.heap.size (fun _ => True) (.slice Ao20 tl_.length co20) tl_) ∧ Aside0 (Below w.heap.size w wc))
       case first =>
        have H := HC25.out
        clear HC25
        obtain ⟨t441, A27, H⟩ := bindE_ H
        by_cases c28 : t441 = true
        ·subst c28
         replace H := ite_t_ H
         have H' := Aside0.mk H
         clear H
         obtain ⟨Ao29, co29, eo29⟩ := Kd.S_slice HO440.out
         subst eo29
         obtain ⟨Ao30, co30, eo30⟩ := Kd.S_slice HO_3.out
         subst eo30
         go_wp2_with (first | ((with_reducible refine gate_callee (f := 6) rfl ?_); refine goesC_ (some 51) Try.func6 #[.slice Ao29 t437.length co29, .slice Ao30 t426.length co30] ?_; (with_reducible refine (laws_eqStepS.calls kj4 _ _ t437 _ _ t426 true _ ?side1 ?side2 ?side3 ?side4 A27.out).mono ?_); (case side1 => repeat (first | exact (Kd.S_reads' HO440.out).2.2 | (with_reducible refine Kd.C_alloc ?_ _) | (with_reducible refine Kd.C_drewN ?_ _) | (with_reducible refine Kd.C_drew ?_))); (case side2 => exact (Kd.S_reads' HO440.out).2.1); (case side3 => repeat (first | exact (Kd.S_reads' HO_3.out).2.2 | (with_reducible refine Kd.C_alloc ?_ _) | (with_reducible refine Kd.C_drewN ?_ _) | (with_reducible refine Kd.C_drew ?_))); (case side4 => exact (Kd.S_reads' HO_3.out).2.1); rintro e w31 ⟨rfl, hb⟩; refine ⟨_, rfl, ?_⟩; replace HO_3 := Aside0.mk (Kd.S_below (by (with_reducible repeat (first | apply Kd.S_alloc | apply Kd.S_drewN | apply Kd.S_drew)); exact HO_3.out) hb); replace HO_5 := Aside0.mk (Kd.S_below (by (with_reducible repeat (first | apply Kd.S_alloc | apply Kd.S_drewN | apply Kd.S_drew)); exact HO_5.out) hb); replace HO440 := Aside0.mk (Kd.S_below (by (with_reducible repeat (first | apply Kd.S_alloc | apply Kd.S_drewN | apply Kd.S_drew)); exact HO440.out) hb); replace HB := hbs_ hb; clear hb))
         go_meet
         case rel => exact ⟨_, ((t438 != t427)), (by first | rfl | (simp; done) | (simp [*]; done)), H', ⟨by have := HJ4.out; first | omega | exact Nat.le_refl _⟩, ⟨by (with_reducible repeat (first | apply Kd.S_alloc | apply Kd.S_drewN | apply Kd.S_drew)); exact Kd.S_mono HO_5.out (fun _ hk => trivial)⟩, ⟨bl_⟩⟩
        ·replace c28 := Bool.eq_false_iff.mpr c28
         subst c28
         replace H := ite_f_ H
         have H' := Aside0.mk H
         clear H
         obtain ⟨Ao32, co32, eo32⟩ := Kd.S_slice HO440.out
         subst eo32
         obtain ⟨Ao33, co33, eo33⟩ := Kd.S_slice HO_3.out
         subst eo33
         go_wp2_with (first | ((with_reducible refine gate_callee (f := 6) rfl ?_); refine goesC_ (some 51) Try.func6 #[.slice Ao32 t437.length co32, .slice Ao33 t426.length co33] ?_; (with_reducible refine (laws_eqStepS.calls kj4 _ _ t437 _ _ t426 false _ ?side1 ?side2 ?side3 ?side4 A27.out).mono ?_); (case side1 => repeat (first | exact (Kd.S_reads' HO440.out).2.2 | (with_reducible refine Kd.C_alloc ?_ _) | (with_reducible refine Kd.C_drewN ?_ _) | (with_reducible refine Kd.C_drew ?_))); (case side2 => exact (Kd.S_reads' HO440.out).2.1); (case side3 => repeat (first | exact (Kd.S_reads' HO_3.out).2.2 | (with_reducible refine Kd.C_alloc ?_ _) | (with_reducible refine Kd.C_drewN ?_ _) | (with_reducible refine Kd.C_drew ?_))); (case side4 => exact (Kd.S_reads' HO_3.out).2.1); rintro e w34 ⟨rfl, hb⟩; refine ⟨_, rfl, ?_⟩; replace HO_3 := Aside0.mk (Kd.S_below (by (with_reducible repeat (first | apply Kd.S_alloc | apply Kd.S_drewN | apply Kd.S_drew)); exact HO_3.out) hb); replace HO_5 := Aside0.mk (Kd.S_below (by (with_reducible repeat (first | apply Kd.S_alloc | apply Kd.S_drewN | apply Kd.S_drew)); exact HO_5.out) hb); replace HO440 := Aside0.mk (Kd.S_below (by (with_reducible repeat (first | apply Kd.S_alloc | apply Kd.S_drewN | apply Kd.S_drew)); exact HO440.out) hb); replace HB := hbs_ hb; clear hb))
         go_meet
         case rel => exact ⟨_, (true), (by first | rfl | (simp; done) | (simp [*]; done)), H', ⟨by have := HJ4.out; first | omega | exact Nat.le_refl _⟩, ⟨by (with_reducible repeat (first | apply Kd.S_alloc | apply Kd.S_drewN | apply Kd.S_drew)); exact Kd.S_mono HO_5.out (fun _ hk => trivial)⟩, ⟨bl_⟩⟩
       case rest =>
        clear HC25
        try clear c1
        try clear c2
        try clear c2b0
        try clear c2b1
        try clear p2
        try clear c3
        try clear c4
        try clear c5
        try clear c6
        try clear c7
        try clear c8
        try clear c9
        try clear c16
        try clear c22
        try clear c22b0
        try clear c23
        try clear c23b0
        try clear c23b1
        try clear c28
        try clear p2
        obtain ⟨kq, x57_24, rfl, HA, HJ24, HO_5, HB⟩ := hcut
        cases kq with
        | zero => exact absurd HA.out (by simp [laws_FnExactReadProof.j1])
        | succ kj24 =>
         have H := HA.out
         clear HA
         simp only [laws_FnExactReadProof.j1] at H
         by_cases c35 : x57_24 = true
         ·subst c35
          replace H := ite_t_ H
          exact absurd (Option.some.inj (H.trans (congrArg some hr_))) (by decide)
         ·replace c35 := Bool.eq_false_iff.mpr c35
          subst c35
          replace H := ite_f_ H
          obtain ⟨t442, A36, H⟩ := bindE_ H
          have HC37 := Aside0.mk H
          clear H
          go_upto_if 62 with (first | ((with_reducible refine gate_callee (f := 8) rfl ?_); refine goesC_ (some 60) Try.func8 #[.slice Ao20 tl_.length co20, .int .i64 1] ?_; (with_reducible refine (laws_heldStepS.calls kj24 _ _ tl_ 1 t442 _ ?side1 ?side2 A36.out).mono ?_); (case side1 => repeat (first | exact (Kd.S_reads' HO_5.out).2.2 | (with_reducible refine Kd.C_alloc ?_ _) | (with_reducible refine Kd.C_drewN ?_ _) | (with_reducible refine Kd.C_drew ?_))); (case side2 => exact (Kd.S_reads' HO_5.out).2.1); rintro e w' ⟨rfl, ⟨nd, rfl⟩⟩; refine ⟨_, rfl, ?_⟩))
          (try simp only [Act.put, List.setIfInBounds_toArray, List.set_cons_zero, List.set_cons_succ])
          have H := HC37.out
          clear HC37
          by_cases c38 : t442 < 0
          ·rw [if_pos c38] at H
           have c38b0 : decide (t442 < 0) = true := decide_eq_true c38
           clear c38
           (first | rw [c38b0] | (simp only [i64_w, i32_w]; rw [c38b0]) | skip)
           exact absurd (Option.some.inj (H.trans (congrArg some hr_))) (by decide)
          ·rw [if_neg c38] at H
           have c38b0 : decide (t442 < 0) = false := decide_eq_false c38
           clear c38
           (first | rw [c38b0] | (simp only [i64_w, i32_w]; rw [c38b0]) | skip)
           by_cases c39 : t442 = t435
           ·rw [if_pos c39] at H
            have c39b0 : (t442 == t435) = true := beq_iff_eq.mpr c39
            have c39b1 : (t442 != t435) = false := bne_eq_false_iff_eq.mpr c39
            clear c39
            obtain rfl := Option.some.inj H
            go_wp2
            go_ret
            exact ⟨eq_, bl_⟩
           ·rw [if_neg c39] at H
            have c39b0 : (t442 == t435) = false := beq_eq_false_iff_ne.mpr c39
            have c39b1 : (t442 != t435) = true := bne_iff_ne.mpr c39
            exact absurd (Option.some.inj (H.trans (congrArg some hr_))) (by decide)
      ·rw [if_neg c23] at H
       have c23b0 : (t436 == t435) = false := beq_eq_false_iff_ne.mpr c23
       have c23b1 : (t436 != t435) = true := bne_iff_ne.mpr c23
       exact absurd (Option.some.inj (H.trans (congrArg some hr_))) (by decide)
end Go.Proofs.Yteppfdkfikeclaa.PL
