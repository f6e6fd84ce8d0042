import Derived.Test.YtjpjidgfcljpcaaKMPAx0
-- printed by wip/tools
namespace Go.Proofs.Ytjpjidgfcljpcaa.PA
open Go.RowKit Go.Proofs.YtjpjidgfcljpcaaW.PrintWords Go.Proofs.YtjpjidgfcljpcaaW.PrintLast Go.Proofs.YtjpjidgfcljpcaaW.PrintMore
attribute [local go_sem] max2_int min2_int max_two min_two max_three min_three max_four min_four
set_option linter.unusedVariables false
set_option linter.unusedSimpArgs false
def laws_heldCredS.l0 : Nat → List (S56) → Int → Int → Option (Int)
 | 0, _, _, _ => none
 | k + 1, x0, x1, x5 => if x5 < (x0.length : Int) then (if 0 ≤ x5 then (if ((rd_T56 x0 x5).f0) = x1 then (if ((rd_T56 x0 x5).f1.f0) = (wrap64 (x1 + 1)) then (if ((rd_T56 x0 x5).f1.f1) = (wrap64 ((wrap64 (x1 + 1)) + 1)) then (if ((rd_T56 x0 x5).f2) = (wrap64 ((wrap64 ((wrap64 (x1 + 1)) + 1)) + 1)) then (if ((rd_T56 x0 x5).f3.f0) = (wrap64 ((wrap64 ((wrap64 ((wrap64 (x1 + 1)) + 1)) + 1)) + 1)) then (if ((rd_T56 x0 x5).f3.f1) = (wrap64 ((wrap64 ((wrap64 ((wrap64 ((wrap64 (x1 + 1)) + 1)) + 1)) + 1)) + 1)) then (if ((rd_T56 x0 x5).f4.f0) = (wrap64 ((wrap64 ((wrap64 ((wrap64 ((wrap64 ((wrap64 (x1 + 1)) + 1)) + 1)) + 1)) + 1)) + 1)) then (if ((rd_T56 x0 x5).f4.f1) = (wrap64 ((wrap64 ((wrap64 ((wrap64 ((wrap64 ((wrap64 ((wrap64 (x1 + 1)) + 1)) + 1)) + 1)) + 1)) + 1)) + 1)) then (if ((rd_T56 x0 x5).f5) = (wrap64 ((wrap64 ((wrap64 ((wrap64 ((wrap64 ((wrap64 ((wrap64 ((wrap64 (x1 + 1)) + 1)) + 1)) + 1)) + 1)) + 1)) + 1)) + 1)) then (if ((rd_T56 x0 x5).f6) = (wrap64 ((wrap64 ((wrap64 ((wrap64 ((wrap64 ((wrap64 ((wrap64 ((wrap64 ((wrap64 (x1 + 1)) + 1)) + 1)) + 1)) + 1)) + 1)) + 1)) + 1)) + 1)) then (laws_heldCredS.l0 k x0 (wrap64 ((wrap64 ((wrap64 ((wrap64 ((wrap64 ((wrap64 ((wrap64 ((wrap64 ((wrap64 ((wrap64 (x1 + 1)) + 1)) + 1)) + 1)) + 1)) + 1)) + 1)) + 1)) + 1)) + 1)) (wrap64 (x5 + 1))) else (some (-1))) else (some (-1))) else (some (-1))) else (some (-1))) else (some (-1))) else (some (-1))) else (some (-1))) else (some (-1))) else (some (-1))) else (some (-1))) else (none)) else (some x1)
def laws_heldCredS.f (k : Nat) (l0 : List (S56)) (a1 : Int) : Option (Int) := laws_heldCredS.l0 k l0 a1 0
set_option maxHeartbeats 8000000 in
set_option maxRecDepth 100000 in
theorem laws_heldCredS.calls (k : Nat) (A0 : Option Addr) (c0 : Nat) (l0 : List (S56)) (a1 : Int) (r : Int) (w : World) (hr0 : Kd.C k56 w A0 l0.length l0) (hc0 : l0.length ≤ c0) (h : laws_heldCredS.f k l0 a1 = some r) :
  Calls Try.prog 78 #[.slice A0 l0.length c0, .int .i64 a1] w fun e w' => e = .returned (.int .i64 r) ∧ Drawn0 w w' := by
 have HR0 := Aside0.mk hr0
 have HC0 := Aside0.mk hc0
 clear hr0 hc0
 have H : (laws_heldCredS.l0 k l0 a1 0) = some r := h
 clear h
 have H' := Aside0.mk H
 clear H
 go_enter Try.func78, Try.ntmps78
 go_wp2
 go_loopg [1, 5] k (fun kq v1 v5 w' => ∃ (x1_1 : Int) (x5_1 : Int), v1 = .int .i64 x1_1 ∧ v5 = .int .i64 x5_1 ∧ Aside0 (laws_heldCredS.l0 kq l0 x1_1 x5_1 = some r) ∧ Aside0 (kq ≤ k) ∧ Drawn0 w w')
 case atStart => exact ⟨(a1), (0), rf_, rf_, H', ⟨Nat.le_refl _⟩, by repeat (first | exact Drawn0.refl _ | apply Drawn0.step)⟩
 case round =>
  clear H'
  try clear p2
  obtain ⟨x1_1, x5_1, rfl, rfl, HA, HK1, ⟨m1, rfl⟩⟩ := hrel
  cases gk with
  | zero => exact absurd HA.out (by simp [laws_heldCredS.l0])
  | succ k1 =>
   have H := HA.out
   clear HA
   simp only [laws_heldCredS.l0] at H
   by_cases c3 : x5_1 < (l0.length : Int)
   ·rw [if_pos c3] at H
    have c3b0 : decide (x5_1 < (l0.length : Int)) = true := decide_eq_true c3
    clear c3
    obtain ⟨c4b0, H⟩ := ifd_ H
    by_cases c5 : ((rd_T56 l0 x5_1).f0) = x1_1
    ·rw [if_pos c5] at H
     have c5b0 : (((rd_T56 l0 x5_1).f0) == x1_1) = true := beq_iff_eq.mpr c5
     have c5b1 : (((rd_T56 l0 x5_1).f0) != x1_1) = false := bne_eq_false_iff_eq.mpr c5
     clear c5
     by_cases c6 : ((rd_T56 l0 x5_1).f1.f0) = (wrap64 (x1_1 + 1))
     ·rw [if_pos c6] at H
      have c6b0 : (((rd_T56 l0 x5_1).f1.f0) == (wrap64 (x1_1 + 1))) = true := beq_iff_eq.mpr c6
      have c6b1 : (((rd_T56 l0 x5_1).f1.f0) != (wrap64 (x1_1 + 1))) = false := bne_eq_false_iff_eq.mpr c6
      clear c6
      by_cases c7 : ((rd_T56 l0 x5_1).f1.f1) = (wrap64 ((wrap64 (x1_1 + 1)) + 1))
      ·rw [if_pos c7] at H
       have c7b0 : (((rd_T56 l0 x5_1).f1.f1) == (wrap64 ((wrap64 (x1_1 + 1)) + 1))) = true := beq_iff_eq.mpr c7
       have c7b1 : (((rd_T56 l0 x5_1).f1.f1) != (wrap64 ((wrap64 (x1_1 + 1)) + 1))) = false := bne_eq_false_iff_eq.mpr c7
       clear c7
       by_cases c8 : ((rd_T56 l0 x5_1).f2) = (wrap64 ((wrap64 ((wrap64 (x1_1 + 1)) + 1)) + 1))
       ·rw [if_pos c8] at H
        have c8b0 : (((rd_T56 l0 x5_1).f2) == (wrap64 ((wrap64 ((wrap64 (x1_1 + 1)) + 1)) + 1))) = true := beq_iff_eq.mpr c8
        have c8b1 : (((rd_T56 l0 x5_1).f2) != (wrap64 ((wrap64 ((wrap64 (x1_1 + 1)) + 1)) + 1))) = false := bne_eq_false_iff_eq.mpr c8
        clear c8
        by_cases c9 : ((rd_T56 l0 x5_1).f3.f0) = (wrap64 ((wrap64 ((wrap64 ((wrap64 (x1_1 + 1)) + 1)) + 1)) + 1))
        ·rw [if_pos c9] at H
         have c9b0 : (((rd_T56 l0 x5_1).f3.f0) == (wrap64 ((wrap64 ((wrap64 ((wrap64 (x1_1 + 1)) + 1)) + 1)) + 1))) = true := beq_iff_eq.mpr c9
         have c9b1 : (((rd_T56 l0 x5_1).f3.f0) != (wrap64 ((wrap64 ((wrap64 ((wrap64 (x1_1 + 1)) + 1)) + 1)) + 1))) = false := bne_eq_false_iff_eq.mpr c9
         clear c9
         by_cases c10 : ((rd_T56 l0 x5_1).f3.f1) = (wrap64 ((wrap64 ((wrap64 ((wrap64 ((wrap64 (x1_1 + 1)) + 1)) + 1)) + 1)) + 1))
         ·rw [if_pos c10] at H
          have c10b0 : (((rd_T56 l0 x5_1).f3.f1) == (wrap64 ((wrap64 ((wrap64 ((wrap64 ((wrap64 (x1_1 + 1)) + 1)) + 1)) + 1)) + 1))) = true := beq_iff_eq.mpr c10
          have c10b1 : (((rd_T56 l0 x5_1).f3.f1) != (wrap64 ((wrap64 ((wrap64 ((wrap64 ((wrap64 (x1_1 + 1)) + 1)) + 1)) + 1)) + 1))) = false := bne_eq_false_iff_eq.mpr c10
          clear c10
          by_cases c11 : ((rd_T56 l0 x5_1).f4.f0) = (wrap64 ((wrap64 ((wrap64 ((wrap64 ((wrap64 ((wrap64 (x1_1 + 1)) + 1)) + 1)) + 1)) + 1)) + 1))
          ·rw [if_pos c11] at H
           have c11b0 : (((rd_T56 l0 x5_1).f4.f0) == (wrap64 ((wrap64 ((wrap64 ((wrap64 ((wrap64 ((wrap64 (x1_1 + 1)) + 1)) + 1)) + 1)) + 1)) + 1))) = true := beq_iff_eq.mpr c11
           have c11b1 : (((rd_T56 l0 x5_1).f4.f0) != (wrap64 ((wrap64 ((wrap64 ((wrap64 ((wrap64 ((wrap64 (x1_1 + 1)) + 1)) + 1)) + 1)) + 1)) + 1))) = false := bne_eq_false_iff_eq.mpr c11
           clear c11
           by_cases c12 : ((rd_T56 l0 x5_1).f4.f1) = (wrap64 ((wrap64 ((wrap64 ((wrap64 ((wrap64 ((wrap64 ((wrap64 (x1_1 + 1)) + 1)) + 1)) + 1)) + 1)) + 1)) + 1))
           ·rw [if_pos c12] at H
            have c12b0 : (((rd_T56 l0 x5_1).f4.f1) == (wrap64 ((wrap64 ((wrap64 ((wrap64 ((wrap64 ((wrap64 ((wrap64 (x1_1 + 1)) + 1)) + 1)) + 1)) + 1)) + 1)) + 1))) = true := beq_iff_eq.mpr c12
            have c12b1 : (((rd_T56 l0 x5_1).f4.f1) != (wrap64 ((wrap64 ((wrap64 ((wrap64 ((wrap64 ((wrap64 ((wrap64 (x1_1 + 1)) + 1)) + 1)) + 1)) + 1)) + 1)) + 1))) = false := bne_eq_false_iff_eq.mpr c12
            clear c12
            by_cases c13 : ((rd_T56 l0 x5_1).f5) = (wrap64 ((wrap64 ((wrap64 ((wrap64 ((wrap64 ((wrap64 ((wrap64 ((wrap64 (x1_1 + 1)) + 1)) + 1)) + 1)) + 1)) + 1)) + 1)) + 1))
            ·rw [if_pos c13] at H
             have c13b0 : (((rd_T56 l0 x5_1).f5) == (wrap64 ((wrap64 ((wrap64 ((wrap64 ((wrap64 ((wrap64 ((wrap64 ((wrap64 (x1_1 + 1)) + 1)) + 1)) + 1)) + 1)) + 1)) + 1)) + 1))) = true := beq_iff_eq.mpr c13
             have c13b1 : (((rd_T56 l0 x5_1).f5) != (wrap64 ((wrap64 ((wrap64 ((wrap64 ((wrap64 ((wrap64 ((wrap64 ((wrap64 (x1_1 + 1)) + 1)) + 1)) + 1)) + 1)) + 1)) + 1)) + 1))) = false := bne_eq_false_iff_eq.mpr c13
             clear c13
             by_cases c14 : ((rd_T56 l0 x5_1).f6) = (wrap64 ((wrap64 ((wrap64 ((wrap64 ((wrap64 ((wrap64 ((wrap64 ((wrap64 ((wrap64 (x1_1 + 1)) + 1)) + 1)) + 1)) + 1)) + 1)) + 1)) + 1)) + 1))
             ·rw [if_pos c14] at H
              have c14b0 : (((rd_T56 l0 x5_1).f6) == (wrap64 ((wrap64 ((wrap64 ((wrap64 ((wrap64 ((wrap64 ((wrap64 ((wrap64 ((wrap64 (x1_1 + 1)) + 1)) + 1)) + 1)) + 1)) + 1)) + 1)) + 1)) + 1))) = true := beq_iff_eq.mpr c14
              have c14b1 : (((rd_T56 l0 x5_1).f6) != (wrap64 ((wrap64 ((wrap64 ((wrap64 ((wrap64 ((wrap64 ((wrap64 ((wrap64 ((wrap64 (x1_1 + 1)) + 1)) + 1)) + 1)) + 1)) + 1)) + 1)) + 1)) + 1))) = false := bne_eq_false_iff_eq.mpr c14
              clear c14
              have H' := Aside0.mk H
              clear H
              have p613 : 0 ≤ (x5_1 : Int) := od_
              have q613 : x5_1 < (l0.length : Int) := od_
              obtain ⟨ad613, e613, hx613_0, hx613_1, hx613_2, hx613_3, hx613_4, hx613_5, hx613_6, hx613_7, hx613_8, hx613_9⟩ := at_T56 HR0.out x5_1 p613 q613
              cases e613
              replace p613 := eq_true p613
              replace q613 := eq_true q613
              have p614 : 0 ≤ (x5_1 : Int) := od_
              have q614 : x5_1 < (l0.length : Int) := od_
              obtain ⟨ad614, e614, hx614_0, hx614_1, hx614_2, hx614_3, hx614_4, hx614_5, hx614_6, hx614_7, hx614_8, hx614_9⟩ := at_T56 HR0.out x5_1 p614 q614
              obtain rfl : ad613 = ad614 := (by injection e614)
              replace p614 := eq_true p614
              replace q614 := eq_true q614
              have p615 : 0 ≤ (x5_1 : Int) := od_
              have q615 : x5_1 < (l0.length : Int) := od_
              obtain ⟨ad615, e615, hx615_0, hx615_1, hx615_2, hx615_3, hx615_4, hx615_5, hx615_6, hx615_7, hx615_8, hx615_9⟩ := at_T56 HR0.out x5_1 p615 q615
              obtain rfl : ad613 = ad615 := (by injection e615)
              replace p615 := eq_true p615
              replace q615 := eq_true q615
              have p616 : 0 ≤ (x5_1 : Int) := od_
              have q616 : x5_1 < (l0.length : Int) := od_
              obtain ⟨ad616, e616, hx616_0, hx616_1, hx616_2, hx616_3, hx616_4, hx616_5, hx616_6, hx616_7, hx616_8, hx616_9⟩ := at_T56 HR0.out x5_1 p616 q616
              obtain rfl : ad613 = ad616 := (by injection e616)
              replace p616 := eq_true p616
              replace q616 := eq_true q616
              have p617 : 0 ≤ (x5_1 : Int) := od_
              have q617 : x5_1 < (l0.length : Int) := od_
              obtain ⟨ad617, e617, hx617_0, hx617_1, hx617_2, hx617_3, hx617_4, hx617_5, hx617_6, hx617_7, hx617_8, hx617_9⟩ := at_T56 HR0.out x5_1 p617 q617
              obtain rfl : ad613 = ad617 := (by injection e617)
              replace p617 := eq_true p617
              replace q617 := eq_true q617
              have p618 : 0 ≤ (x5_1 : Int) := od_
              have q618 : x5_1 < (l0.length : Int) := od_
              obtain ⟨ad618, e618, hx618_0, hx618_1, hx618_2, hx618_3, hx618_4, hx618_5, hx618_6, hx618_7, hx618_8, hx618_9⟩ := at_T56 HR0.out x5_1 p618 q618
              obtain rfl : ad613 = ad618 := (by injection e618)
              replace p618 := eq_true p618
              replace q618 := eq_true q618
              have p619 : 0 ≤ (x5_1 : Int) := od_
              have q619 : x5_1 < (l0.length : Int) := od_
              obtain ⟨ad619, e619, hx619_0, hx619_1, hx619_2, hx619_3, hx619_4, hx619_5, hx619_6, hx619_7, hx619_8, hx619_9⟩ := at_T56 HR0.out x5_1 p619 q619
              obtain rfl : ad613 = ad619 := (by injection e619)
              replace p619 := eq_true p619
              replace q619 := eq_true q619
              have p620 : 0 ≤ (x5_1 : Int) := od_
              have q620 : x5_1 < (l0.length : Int) := od_
              obtain ⟨ad620, e620, hx620_0, hx620_1, hx620_2, hx620_3, hx620_4, hx620_5, hx620_6, hx620_7, hx620_8, hx620_9⟩ := at_T56 HR0.out x5_1 p620 q620
              obtain rfl : ad613 = ad620 := (by injection e620)
              replace p620 := eq_true p620
              replace q620 := eq_true q620
              have p621 : 0 ≤ (x5_1 : Int) := od_
              have q621 : x5_1 < (l0.length : Int) := od_
              obtain ⟨ad621, e621, hx621_0, hx621_1, hx621_2, hx621_3, hx621_4, hx621_5, hx621_6, hx621_7, hx621_8, hx621_9⟩ := at_T56 HR0.out x5_1 p621 q621
              obtain rfl : ad613 = ad621 := (by injection e621)
              replace p621 := eq_true p621
              replace q621 := eq_true q621
              have p622 : 0 ≤ (x5_1 : Int) := od_
              have q622 : x5_1 < (l0.length : Int) := od_
              obtain ⟨ad622, e622, hx622_0, hx622_1, hx622_2, hx622_3, hx622_4, hx622_5, hx622_6, hx622_7, hx622_8, hx622_9⟩ := at_T56 HR0.out x5_1 p622 q622
              obtain rfl : ad613 = ad622 := (by injection e622)
              replace p622 := eq_true p622
              replace q622 := eq_true q622
              go_wp2
              go_roundg k1
              case measure => have := HK1.out; omega
              case rel => exact ⟨(wrap64 ((wrap64 ((wrap64 ((wrap64 ((wrap64 ((wrap64 ((wrap64 ((wrap64 ((wrap64 ((wrap64 (x1_1 + 1)) + 1)) + 1)) + 1)) + 1)) + 1)) + 1)) + 1)) + 1)) + 1)), (wrap64 (x5_1 + 1)), rf_, rf_, H', ⟨by have := HK1.out; omega⟩, by repeat (first | exact Drawn0.refl _ | apply Drawn0.step)⟩
             ·rw [if_neg c14] at H
              have c14b0 : (((rd_T56 l0 x5_1).f6) == (wrap64 ((wrap64 ((wrap64 ((wrap64 ((wrap64 ((wrap64 ((wrap64 ((wrap64 ((wrap64 (x1_1 + 1)) + 1)) + 1)) + 1)) + 1)) + 1)) + 1)) + 1)) + 1))) = false := beq_eq_false_iff_ne.mpr c14
              have c14b1 : (((rd_T56 l0 x5_1).f6) != (wrap64 ((wrap64 ((wrap64 ((wrap64 ((wrap64 ((wrap64 ((wrap64 ((wrap64 ((wrap64 (x1_1 + 1)) + 1)) + 1)) + 1)) + 1)) + 1)) + 1)) + 1)) + 1))) = true := bne_iff_ne.mpr c14
              obtain rfl := Option.some.inj H
              have p613 : 0 ≤ (x5_1 : Int) := od_
              have q613 : x5_1 < (l0.length : Int) := od_
              obtain ⟨ad613, e613, hx613_0, hx613_1, hx613_2, hx613_3, hx613_4, hx613_5, hx613_6, hx613_7, hx613_8, hx613_9⟩ := at_T56 HR0.out x5_1 p613 q613
              cases e613
              replace p613 := eq_true p613
              replace q613 := eq_true q613
              have p614 : 0 ≤ (x5_1 : Int) := od_
              have q614 : x5_1 < (l0.length : Int) := od_
              obtain ⟨ad614, e614, hx614_0, hx614_1, hx614_2, hx614_3, hx614_4, hx614_5, hx614_6, hx614_7, hx614_8, hx614_9⟩ := at_T56 HR0.out x5_1 p614 q614
              obtain rfl : ad613 = ad614 := (by injection e614)
              replace p614 := eq_true p614
              replace q614 := eq_true q614
              have p615 : 0 ≤ (x5_1 : Int) := od_
              have q615 : x5_1 < (l0.length : Int) := od_
              obtain ⟨ad615, e615, hx615_0, hx615_1, hx615_2, hx615_3, hx615_4, hx615_5, hx615_6, hx615_7, hx615_8, hx615_9⟩ := at_T56 HR0.out x5_1 p615 q615
              obtain rfl : ad613 = ad615 := (by injection e615)
              replace p615 := eq_true p615
              replace q615 := eq_true q615
              have p616 : 0 ≤ (x5_1 : Int) := od_
              have q616 : x5_1 < (l0.length : Int) := od_
              obtain ⟨ad616, e616, hx616_0, hx616_1, hx616_2, hx616_3, hx616_4, hx616_5, hx616_6, hx616_7, hx616_8, hx616_9⟩ := at_T56 HR0.out x5_1 p616 q616
              obtain rfl : ad613 = ad616 := (by injection e616)
              replace p616 := eq_true p616
              replace q616 := eq_true q616
              have p617 : 0 ≤ (x5_1 : Int) := od_
              have q617 : x5_1 < (l0.length : Int) := od_
              obtain ⟨ad617, e617, hx617_0, hx617_1, hx617_2, hx617_3, hx617_4, hx617_5, hx617_6, hx617_7, hx617_8, hx617_9⟩ := at_T56 HR0.out x5_1 p617 q617
              obtain rfl : ad613 = ad617 := (by injection e617)
              replace p617 := eq_true p617
              replace q617 := eq_true q617
              have p618 : 0 ≤ (x5_1 : Int) := od_
              have q618 : x5_1 < (l0.length : Int) := od_
              obtain ⟨ad618, e618, hx618_0, hx618_1, hx618_2, hx618_3, hx618_4, hx618_5, hx618_6, hx618_7, hx618_8, hx618_9⟩ := at_T56 HR0.out x5_1 p618 q618
              obtain rfl : ad613 = ad618 := (by injection e618)
              replace p618 := eq_true p618
              replace q618 := eq_true q618
              have p619 : 0 ≤ (x5_1 : Int) := od_
              have q619 : x5_1 < (l0.length : Int) := od_
              obtain ⟨ad619, e619, hx619_0, hx619_1, hx619_2, hx619_3, hx619_4, hx619_5, hx619_6, hx619_7, hx619_8, hx619_9⟩ := at_T56 HR0.out x5_1 p619 q619
              obtain rfl : ad613 = ad619 := (by injection e619)
              replace p619 := eq_true p619
              replace q619 := eq_true q619
              have p620 : 0 ≤ (x5_1 : Int) := od_
              have q620 : x5_1 < (l0.length : Int) := od_
              obtain ⟨ad620, e620, hx620_0, hx620_1, hx620_2, hx620_3, hx620_4, hx620_5, hx620_6, hx620_7, hx620_8, hx620_9⟩ := at_T56 HR0.out x5_1 p620 q620
              obtain rfl : ad613 = ad620 := (by injection e620)
              replace p620 := eq_true p620
              replace q620 := eq_true q620
              have p621 : 0 ≤ (x5_1 : Int) := od_
              have q621 : x5_1 < (l0.length : Int) := od_
              obtain ⟨ad621, e621, hx621_0, hx621_1, hx621_2, hx621_3, hx621_4, hx621_5, hx621_6, hx621_7, hx621_8, hx621_9⟩ := at_T56 HR0.out x5_1 p621 q621
              obtain rfl : ad613 = ad621 := (by injection e621)
              replace p621 := eq_true p621
              replace q621 := eq_true q621
              have p622 : 0 ≤ (x5_1 : Int) := od_
              have q622 : x5_1 < (l0.length : Int) := od_
              obtain ⟨ad622, e622, hx622_0, hx622_1, hx622_2, hx622_3, hx622_4, hx622_5, hx622_6, hx622_7, hx622_8, hx622_9⟩ := at_T56 HR0.out x5_1 p622 q622
              obtain rfl : ad613 = ad622 := (by injection e622)
              replace p622 := eq_true p622
              replace q622 := eq_true q622
              go_wp2
              go_ret
              exact ⟨by first | rfl | (simp; done) | (simp [*]; done), by repeat (first | exact Drawn0.refl _ | apply Drawn0.step)⟩
            ·rw [if_neg c13] at H
             have c13b0 : (((rd_T56 l0 x5_1).f5) == (wrap64 ((wrap64 ((wrap64 ((wrap64 ((wrap64 ((wrap64 ((wrap64 ((wrap64 (x1_1 + 1)) + 1)) + 1)) + 1)) + 1)) + 1)) + 1)) + 1))) = false := beq_eq_false_iff_ne.mpr c13
             have c13b1 : (((rd_T56 l0 x5_1).f5) != (wrap64 ((wrap64 ((wrap64 ((wrap64 ((wrap64 ((wrap64 ((wrap64 ((wrap64 (x1_1 + 1)) + 1)) + 1)) + 1)) + 1)) + 1)) + 1)) + 1))) = true := bne_iff_ne.mpr c13
             obtain rfl := Option.some.inj H
             have p613 : 0 ≤ (x5_1 : Int) := od_
             have q613 : x5_1 < (l0.length : Int) := od_
             obtain ⟨ad613, e613, hx613_0, hx613_1, hx613_2, hx613_3, hx613_4, hx613_5, hx613_6, hx613_7, hx613_8, hx613_9⟩ := at_T56 HR0.out x5_1 p613 q613
             cases e613
             replace p613 := eq_true p613
             replace q613 := eq_true q613
             have p614 : 0 ≤ (x5_1 : Int) := od_
             have q614 : x5_1 < (l0.length : Int) := od_
             obtain ⟨ad614, e614, hx614_0, hx614_1, hx614_2, hx614_3, hx614_4, hx614_5, hx614_6, hx614_7, hx614_8, hx614_9⟩ := at_T56 HR0.out x5_1 p614 q614
             obtain rfl : ad613 = ad614 := (by injection e614)
             replace p614 := eq_true p614
             replace q614 := eq_true q614
             have p615 : 0 ≤ (x5_1 : Int) := od_
             have q615 : x5_1 < (l0.length : Int) := od_
             obtain ⟨ad615, e615, hx615_0, hx615_1, hx615_2, hx615_3, hx615_4, hx615_5, hx615_6, hx615_7, hx615_8, hx615_9⟩ := at_T56 HR0.out x5_1 p615 q615
             obtain rfl : ad613 = ad615 := (by injection e615)
             replace p615 := eq_true p615
             replace q615 := eq_true q615
             have p616 : 0 ≤ (x5_1 : Int) := od_
             have q616 : x5_1 < (l0.length : Int) := od_
             obtain ⟨ad616, e616, hx616_0, hx616_1, hx616_2, hx616_3, hx616_4, hx616_5, hx616_6, hx616_7, hx616_8, hx616_9⟩ := at_T56 HR0.out x5_1 p616 q616
             obtain rfl : ad613 = ad616 := (by injection e616)
             replace p616 := eq_true p616
             replace q616 := eq_true q616
             have p617 : 0 ≤ (x5_1 : Int) := od_
             have q617 : x5_1 < (l0.length : Int) := od_
             obtain ⟨ad617, e617, hx617_0, hx617_1, hx617_2, hx617_3, hx617_4, hx617_5, hx617_6, hx617_7, hx617_8, hx617_9⟩ := at_T56 HR0.out x5_1 p617 q617
             obtain rfl : ad613 = ad617 := (by injection e617)
             replace p617 := eq_true p617
             replace q617 := eq_true q617
             have p618 : 0 ≤ (x5_1 : Int) := od_
             have q618 : x5_1 < (l0.length : Int) := od_
             obtain ⟨ad618, e618, hx618_0, hx618_1, hx618_2, hx618_3, hx618_4, hx618_5, hx618_6, hx618_7, hx618_8, hx618_9⟩ := at_T56 HR0.out x5_1 p618 q618
             obtain rfl : ad613 = ad618 := (by injection e618)
             replace p618 := eq_true p618
             replace q618 := eq_true q618
             have p619 : 0 ≤ (x5_1 : Int) := od_
             have q619 : x5_1 < (l0.length : Int) := od_
             obtain ⟨ad619, e619, hx619_0, hx619_1, hx619_2, hx619_3, hx619_4, hx619_5, hx619_6, hx619_7, hx619_8, hx619_9⟩ := at_T56 HR0.out x5_1 p619 q619
             obtain rfl : ad613 = ad619 := (by injection e619)
             replace p619 := eq_true p619
             replace q619 := eq_true q619
             have p620 : 0 ≤ (x5_1 : Int) := od_
             have q620 : x5_1 < (l0.length : Int) := od_
             obtain ⟨ad620, e620, hx620_0, hx620_1, hx620_2, hx620_3, hx620_4, hx620_5, hx620_6, hx620_7, hx620_8, hx620_9⟩ := at_T56 HR0.out x5_1 p620 q620
             obtain rfl : ad613 = ad620 := (by injection e620)
             replace p620 := eq_true p620
             replace q620 := eq_true q620
             have p621 : 0 ≤ (x5_1 : Int) := od_
             have q621 : x5_1 < (l0.length : Int) := od_
             obtain ⟨ad621, e621, hx621_0, hx621_1, hx621_2, hx621_3, hx621_4, hx621_5, hx621_6, hx621_7, hx621_8, hx621_9⟩ := at_T56 HR0.out x5_1 p621 q621
             obtain rfl : ad613 = ad621 := (by injection e621)
             replace p621 := eq_true p621
             replace q621 := eq_true q621
             go_wp2
             go_ret
             exact ⟨by first | rfl | (simp; done) | (simp [*]; done), by repeat (first | exact Drawn0.refl _ | apply Drawn0.step)⟩
           ·rw [if_neg c12] at H
            have c12b0 : (((rd_T56 l0 x5_1).f4.f1) == (wrap64 ((wrap64 ((wrap64 ((wrap64 ((wrap64 ((wrap64 ((wrap64 (x1_1 + 1)) + 1)) + 1)) + 1)) + 1)) + 1)) + 1))) = false := beq_eq_false_iff_ne.mpr c12
            have c12b1 : (((rd_T56 l0 x5_1).f4.f1) != (wrap64 ((wrap64 ((wrap64 ((wrap64 ((wrap64 ((wrap64 ((wrap64 (x1_1 + 1)) + 1)) + 1)) + 1)) + 1)) + 1)) + 1))) = true := bne_iff_ne.mpr c12
            obtain rfl := Option.some.inj H
            have p613 : 0 ≤ (x5_1 : Int) := od_
            have q613 : x5_1 < (l0.length : Int) := od_
            obtain ⟨ad613, e613, hx613_0, hx613_1, hx613_2, hx613_3, hx613_4, hx613_5, hx613_6, hx613_7, hx613_8, hx613_9⟩ := at_T56 HR0.out x5_1 p613 q613
            cases e613
            replace p613 := eq_true p613
            replace q613 := eq_true q613
            have p614 : 0 ≤ (x5_1 : Int) := od_
            have q614 : x5_1 < (l0.length : Int) := od_
            obtain ⟨ad614, e614, hx614_0, hx614_1, hx614_2, hx614_3, hx614_4, hx614_5, hx614_6, hx614_7, hx614_8, hx614_9⟩ := at_T56 HR0.out x5_1 p614 q614
            obtain rfl : ad613 = ad614 := (by injection e614)
            replace p614 := eq_true p614
            replace q614 := eq_true q614
            have p615 : 0 ≤ (x5_1 : Int) := od_
            have q615 : x5_1 < (l0.length : Int) := od_
            obtain ⟨ad615, e615, hx615_0, hx615_1, hx615_2, hx615_3, hx615_4, hx615_5, hx615_6, hx615_7, hx615_8, hx615_9⟩ := at_T56 HR0.out x5_1 p615 q615
            obtain rfl : ad613 = ad615 := (by injection e615)
            replace p615 := eq_true p615
            replace q615 := eq_true q615
            have p616 : 0 ≤ (x5_1 : Int) := od_
            have q616 : x5_1 < (l0.length : Int) := od_
            obtain ⟨ad616, e616, hx616_0, hx616_1, hx616_2, hx616_3, hx616_4, hx616_5, hx616_6, hx616_7, hx616_8, hx616_9⟩ := at_T56 HR0.out x5_1 p616 q616
            obtain rfl : ad613 = ad616 := (by injection e616)
            replace p616 := eq_true p616
            replace q616 := eq_true q616
            have p617 : 0 ≤ (x5_1 : Int) := od_
            have q617 : x5_1 < (l0.length : Int) := od_
            obtain ⟨ad617, e617, hx617_0, hx617_1, hx617_2, hx617_3, hx617_4, hx617_5, hx617_6, hx617_7, hx617_8, hx617_9⟩ := at_T56 HR0.out x5_1 p617 q617
            obtain rfl : ad613 = ad617 := (by injection e617)
            replace p617 := eq_true p617
            replace q617 := eq_true q617
            have p618 : 0 ≤ (x5_1 : Int) := od_
            have q618 : x5_1 < (l0.length : Int) := od_
            obtain ⟨ad618, e618, hx618_0, hx618_1, hx618_2, hx618_3, hx618_4, hx618_5, hx618_6, hx618_7, hx618_8, hx618_9⟩ := at_T56 HR0.out x5_1 p618 q618
            obtain rfl : ad613 = ad618 := (by injection e618)
            replace p618 := eq_true p618
            replace q618 := eq_true q618
            have p619 : 0 ≤ (x5_1 : Int) := od_
            have q619 : x5_1 < (l0.length : Int) := od_
            obtain ⟨ad619, e619, hx619_0, hx619_1, hx619_2, hx619_3, hx619_4, hx619_5, hx619_6, hx619_7, hx619_8, hx619_9⟩ := at_T56 HR0.out x5_1 p619 q619
            obtain rfl : ad613 = ad619 := (by injection e619)
            replace p619 := eq_true p619
            replace q619 := eq_true q619
            have p620 : 0 ≤ (x5_1 : Int) := od_
            have q620 : x5_1 < (l0.length : Int) := od_
            obtain ⟨ad620, e620, hx620_0, hx620_1, hx620_2, hx620_3, hx620_4, hx620_5, hx620_6, hx620_7, hx620_8, hx620_9⟩ := at_T56 HR0.out x5_1 p620 q620
            obtain rfl : ad613 = ad620 := (by injection e620)
            replace p620 := eq_true p620
            replace q620 := eq_true q620
            go_wp2
            go_ret
            exact ⟨by first | rfl | (simp; done) | (simp [*]; done), by repeat (first | exact Drawn0.refl _ | apply Drawn0.step)⟩
          ·rw [if_neg c11] at H
           have c11b0 : (((rd_T56 l0 x5_1).f4.f0) == (wrap64 ((wrap64 ((wrap64 ((wrap64 ((wrap64 ((wrap64 (x1_1 + 1)) + 1)) + 1)) + 1)) + 1)) + 1))) = false := beq_eq_false_iff_ne.mpr c11
           have c11b1 : (((rd_T56 l0 x5_1).f4.f0) != (wrap64 ((wrap64 ((wrap64 ((wrap64 ((wrap64 ((wrap64 (x1_1 + 1)) + 1)) + 1)) + 1)) + 1)) + 1))) = true := bne_iff_ne.mpr c11
           obtain rfl := Option.some.inj H
           have p613 : 0 ≤ (x5_1 : Int) := od_
           have q613 : x5_1 < (l0.length : Int) := od_
           obtain ⟨ad613, e613, hx613_0, hx613_1, hx613_2, hx613_3, hx613_4, hx613_5, hx613_6, hx613_7, hx613_8, hx613_9⟩ := at_T56 HR0.out x5_1 p613 q613
           cases e613
           replace p613 := eq_true p613
           replace q613 := eq_true q613
           have p614 : 0 ≤ (x5_1 : Int) := od_
           have q614 : x5_1 < (l0.length : Int) := od_
           obtain ⟨ad614, e614, hx614_0, hx614_1, hx614_2, hx614_3, hx614_4, hx614_5, hx614_6, hx614_7, hx614_8, hx614_9⟩ := at_T56 HR0.out x5_1 p614 q614
           obtain rfl : ad613 = ad614 := (by injection e614)
           replace p614 := eq_true p614
           replace q614 := eq_true q614
           have p615 : 0 ≤ (x5_1 : Int) := od_
           have q615 : x5_1 < (l0.length : Int) := od_
           obtain ⟨ad615, e615, hx615_0, hx615_1, hx615_2, hx615_3, hx615_4, hx615_5, hx615_6, hx615_7, hx615_8, hx615_9⟩ := at_T56 HR0.out x5_1 p615 q615
           obtain rfl : ad613 = ad615 := (by injection e615)
           replace p615 := eq_true p615
           replace q615 := eq_true q615
           have p616 : 0 ≤ (x5_1 : Int) := od_
           have q616 : x5_1 < (l0.length : Int) := od_
           obtain ⟨ad616, e616, hx616_0, hx616_1, hx616_2, hx616_3, hx616_4, hx616_5, hx616_6, hx616_7, hx616_8, hx616_9⟩ := at_T56 HR0.out x5_1 p616 q616
           obtain rfl : ad613 = ad616 := (by injection e616)
           replace p616 := eq_true p616
           replace q616 := eq_true q616
           have p617 : 0 ≤ (x5_1 : Int) := od_
           have q617 : x5_1 < (l0.length : Int) := od_
           obtain ⟨ad617, e617, hx617_0, hx617_1, hx617_2, hx617_3, hx617_4, hx617_5, hx617_6, hx617_7, hx617_8, hx617_9⟩ := at_T56 HR0.out x5_1 p617 q617
           obtain rfl : ad613 = ad617 := (by injection e617)
           replace p617 := eq_true p617
           replace q617 := eq_true q617
           have p618 : 0 ≤ (x5_1 : Int) := od_
           have q618 : x5_1 < (l0.length : Int) := od_
           obtain ⟨ad618, e618, hx618_0, hx618_1, hx618_2, hx618_3, hx618_4, hx618_5, hx618_6, hx618_7, hx618_8, hx618_9⟩ := at_T56 HR0.out x5_1 p618 q618
           obtain rfl : ad613 = ad618 := (by injection e618)
           replace p618 := eq_true p618
           replace q618 := eq_true q618
           have p619 : 0 ≤ (x5_1 : Int) := od_
           have q619 : x5_1 < (l0.length : Int) := od_
           obtain ⟨ad619, e619, hx619_0, hx619_1, hx619_2, hx619_3, hx619_4, hx619_5, hx619_6, hx619_7, hx619_8, hx619_9⟩ := at_T56 HR0.out x5_1 p619 q619
           obtain rfl : ad613 = ad619 := (by injection e619)
           replace p619 := eq_true p619
           replace q619 := eq_true q619
           go_wp2
           go_ret
           exact ⟨by first | rfl | (simp; done) | (simp [*]; done), by repeat (first | exact Drawn0.refl _ | apply Drawn0.step)⟩
         ·rw [if_neg c10] at H
          have c10b0 : (((rd_T56 l0 x5_1).f3.f1) == (wrap64 ((wrap64 ((wrap64 ((wrap64 ((wrap64 (x1_1 + 1)) + 1)) + 1)) + 1)) + 1))) = false := beq_eq_false_iff_ne.mpr c10
          have c10b1 : (((rd_T56 l0 x5_1).f3.f1) != (wrap64 ((wrap64 ((wrap64 ((wrap64 ((wrap64 (x1_1 + 1)) + 1)) + 1)) + 1)) + 1))) = true := bne_iff_ne.mpr c10
          obtain rfl := Option.some.inj H
          have p613 : 0 ≤ (x5_1 : Int) := od_
          have q613 : x5_1 < (l0.length : Int) := od_
          obtain ⟨ad613, e613, hx613_0, hx613_1, hx613_2, hx613_3, hx613_4, hx613_5, hx613_6, hx613_7, hx613_8, hx613_9⟩ := at_T56 HR0.out x5_1 p613 q613
          cases e613
          replace p613 := eq_true p613
          replace q613 := eq_true q613
          have p614 : 0 ≤ (x5_1 : Int) := od_
          have q614 : x5_1 < (l0.length : Int) := od_
          obtain ⟨ad614, e614, hx614_0, hx614_1, hx614_2, hx614_3, hx614_4, hx614_5, hx614_6, hx614_7, hx614_8, hx614_9⟩ := at_T56 HR0.out x5_1 p614 q614
          obtain rfl : ad613 = ad614 := (by injection e614)
          replace p614 := eq_true p614
          replace q614 := eq_true q614
          have p615 : 0 ≤ (x5_1 : Int) := od_
          have q615 : x5_1 < (l0.length : Int) := od_
          obtain ⟨ad615, e615, hx615_0, hx615_1, hx615_2, hx615_3, hx615_4, hx615_5, hx615_6, hx615_7, hx615_8, hx615_9⟩ := at_T56 HR0.out x5_1 p615 q615
          obtain rfl : ad613 = ad615 := (by injection e615)
          replace p615 := eq_true p615
          replace q615 := eq_true q615
          have p616 : 0 ≤ (x5_1 : Int) := od_
          have q616 : x5_1 < (l0.length : Int) := od_
          obtain ⟨ad616, e616, hx616_0, hx616_1, hx616_2, hx616_3, hx616_4, hx616_5, hx616_6, hx616_7, hx616_8, hx616_9⟩ := at_T56 HR0.out x5_1 p616 q616
          obtain rfl : ad613 = ad616 := (by injection e616)
          replace p616 := eq_true p616
          replace q616 := eq_true q616
          have p617 : 0 ≤ (x5_1 : Int) := od_
          have q617 : x5_1 < (l0.length : Int) := od_
          obtain ⟨ad617, e617, hx617_0, hx617_1, hx617_2, hx617_3, hx617_4, hx617_5, hx617_6, hx617_7, hx617_8, hx617_9⟩ := at_T56 HR0.out x5_1 p617 q617
          obtain rfl : ad613 = ad617 := (by injection e617)
          replace p617 := eq_true p617
          replace q617 := eq_true q617
          have p618 : 0 ≤ (x5_1 : Int) := od_
          have q618 : x5_1 < (l0.length : Int) := od_
          obtain ⟨ad618, e618, hx618_0, hx618_1, hx618_2, hx618_3, hx618_4, hx618_5, hx618_6, hx618_7, hx618_8, hx618_9⟩ := at_T56 HR0.out x5_1 p618 q618
          obtain rfl : ad613 = ad618 := (by injection e618)
          replace p618 := eq_true p618
          replace q618 := eq_true q618
          go_wp2
          go_ret
          exact ⟨by first | rfl | (simp; done) | (simp [*]; done), by repeat (first | exact Drawn0.refl _ | apply Drawn0.step)⟩
        ·rw [if_neg c9] at H
         have c9b0 : (((rd_T56 l0 x5_1).f3.f0) == (wrap64 ((wrap64 ((wrap64 ((wrap64 (x1_1 + 1)) + 1)) + 1)) + 1))) = false := beq_eq_false_iff_ne.mpr c9
         have c9b1 : (((rd_T56 l0 x5_1).f3.f0) != (wrap64 ((wrap64 ((wrap64 ((wrap64 (x1_1 + 1)) + 1)) + 1)) + 1))) = true := bne_iff_ne.mpr c9
         obtain rfl := Option.some.inj H
         have p613 : 0 ≤ (x5_1 : Int) := od_
         have q613 : x5_1 < (l0.length : Int) := od_
         obtain ⟨ad613, e613, hx613_0, hx613_1, hx613_2, hx613_3, hx613_4, hx613_5, hx613_6, hx613_7, hx613_8, hx613_9⟩ := at_T56 HR0.out x5_1 p613 q613
         cases e613
         replace p613 := eq_true p613
         replace q613 := eq_true q613
         have p614 : 0 ≤ (x5_1 : Int) := od_
         have q614 : x5_1 < (l0.length : Int) := od_
         obtain ⟨ad614, e614, hx614_0, hx614_1, hx614_2, hx614_3, hx614_4, hx614_5, hx614_6, hx614_7, hx614_8, hx614_9⟩ := at_T56 HR0.out x5_1 p614 q614
         obtain rfl : ad613 = ad614 := (by injection e614)
         replace p614 := eq_true p614
         replace q614 := eq_true q614
         have p615 : 0 ≤ (x5_1 : Int) := od_
         have q615 : x5_1 < (l0.length : Int) := od_
         obtain ⟨ad615, e615, hx615_0, hx615_1, hx615_2, hx615_3, hx615_4, hx615_5, hx615_6, hx615_7, hx615_8, hx615_9⟩ := at_T56 HR0.out x5_1 p615 q615
         obtain rfl : ad613 = ad615 := (by injection e615)
         replace p615 := eq_true p615
         replace q615 := eq_true q615
         have p616 : 0 ≤ (x5_1 : Int) := od_
         have q616 : x5_1 < (l0.length : Int) := od_
         obtain ⟨ad616, e616, hx616_0, hx616_1, hx616_2, hx616_3, hx616_4, hx616_5, hx616_6, hx616_7, hx616_8, hx616_9⟩ := at_T56 HR0.out x5_1 p616 q616
         obtain rfl : ad613 = ad616 := (by injection e616)
         replace p616 := eq_true p616
         replace q616 := eq_true q616
         have p617 : 0 ≤ (x5_1 : Int) := od_
         have q617 : x5_1 < (l0.length : Int) := od_
         obtain ⟨ad617, e617, hx617_0, hx617_1, hx617_2, hx617_3, hx617_4, hx617_5, hx617_6, hx617_7, hx617_8, hx617_9⟩ := at_T56 HR0.out x5_1 p617 q617
         obtain rfl : ad613 = ad617 := (by injection e617)
         replace p617 := eq_true p617
         replace q617 := eq_true q617
         go_wp2
         go_ret
         exact ⟨by first | rfl | (simp; done) | (simp [*]; done), by repeat (first | exact Drawn0.refl _ | apply Drawn0.step)⟩
       ·rw [if_neg c8] at H
        have c8b0 : (((rd_T56 l0 x5_1).f2) == (wrap64 ((wrap64 ((wrap64 (x1_1 + 1)) + 1)) + 1))) = false := beq_eq_false_iff_ne.mpr c8
        have c8b1 : (((rd_T56 l0 x5_1).f2) != (wrap64 ((wrap64 ((wrap64 (x1_1 + 1)) + 1)) + 1))) = true := bne_iff_ne.mpr c8
        obtain rfl := Option.some.inj H
        have p613 : 0 ≤ (x5_1 : Int) := od_
        have q613 : x5_1 < (l0.length : Int) := od_
        obtain ⟨ad613, e613, hx613_0, hx613_1, hx613_2, hx613_3, hx613_4, hx613_5, hx613_6, hx613_7, hx613_8, hx613_9⟩ := at_T56 HR0.out x5_1 p613 q613
        cases e613
        replace p613 := eq_true p613
        replace q613 := eq_true q613
        have p614 : 0 ≤ (x5_1 : Int) := od_
        have q614 : x5_1 < (l0.length : Int) := od_
        obtain ⟨ad614, e614, hx614_0, hx614_1, hx614_2, hx614_3, hx614_4, hx614_5, hx614_6, hx614_7, hx614_8, hx614_9⟩ := at_T56 HR0.out x5_1 p614 q614
        obtain rfl : ad613 = ad614 := (by injection e614)
        replace p614 := eq_true p614
        replace q614 := eq_true q614
        have p615 : 0 ≤ (x5_1 : Int) := od_
        have q615 : x5_1 < (l0.length : Int) := od_
        obtain ⟨ad615, e615, hx615_0, hx615_1, hx615_2, hx615_3, hx615_4, hx615_5, hx615_6, hx615_7, hx615_8, hx615_9⟩ := at_T56 HR0.out x5_1 p615 q615
        obtain rfl : ad613 = ad615 := (by injection e615)
        replace p615 := eq_true p615
        replace q615 := eq_true q615
        have p616 : 0 ≤ (x5_1 : Int) := od_
        have q616 : x5_1 < (l0.length : Int) := od_
        obtain ⟨ad616, e616, hx616_0, hx616_1, hx616_2, hx616_3, hx616_4, hx616_5, hx616_6, hx616_7, hx616_8, hx616_9⟩ := at_T56 HR0.out x5_1 p616 q616
        obtain rfl : ad613 = ad616 := (by injection e616)
        replace p616 := eq_true p616
        replace q616 := eq_true q616
        go_wp2
        go_ret
        exact ⟨by first | rfl | (simp; done) | (simp [*]; done), by repeat (first | exact Drawn0.refl _ | apply Drawn0.step)⟩
      ·rw [if_neg c7] at H
       have c7b0 : (((rd_T56 l0 x5_1).f1.f1) == (wrap64 ((wrap64 (x1_1 + 1)) + 1))) = false := beq_eq_false_iff_ne.mpr c7
       have c7b1 : (((rd_T56 l0 x5_1).f1.f1) != (wrap64 ((wrap64 (x1_1 + 1)) + 1))) = true := bne_iff_ne.mpr c7
       obtain rfl := Option.some.inj H
       have p613 : 0 ≤ (x5_1 : Int) := od_
       have q613 : x5_1 < (l0.length : Int) := od_
       obtain ⟨ad613, e613, hx613_0, hx613_1, hx613_2, hx613_3, hx613_4, hx613_5, hx613_6, hx613_7, hx613_8, hx613_9⟩ := at_T56 HR0.out x5_1 p613 q613
       cases e613
       replace p613 := eq_true p613
       replace q613 := eq_true q613
       have p614 : 0 ≤ (x5_1 : Int) := od_
       have q614 : x5_1 < (l0.length : Int) := od_
       obtain ⟨ad614, e614, hx614_0, hx614_1, hx614_2, hx614_3, hx614_4, hx614_5, hx614_6, hx614_7, hx614_8, hx614_9⟩ := at_T56 HR0.out x5_1 p614 q614
       obtain rfl : ad613 = ad614 := (by injection e614)
       replace p614 := eq_true p614
       replace q614 := eq_true q614
       have p615 : 0 ≤ (x5_1 : Int) := od_
       have q615 : x5_1 < (l0.length : Int) := od_
       obtain ⟨ad615, e615, hx615_0, hx615_1, hx615_2, hx615_3, hx615_4, hx615_5, hx615_6, hx615_7, hx615_8, hx615_9⟩ := at_T56 HR0.out x5_1 p615 q615
       obtain rfl : ad613 = ad615 := (by injection e615)
       replace p615 := eq_true p615
       replace q615 := eq_true q615
       go_wp2
       go_ret
       exact ⟨by first | rfl | (simp; done) | (simp [*]; done), by repeat (first | exact Drawn0.refl _ | apply Drawn0.step)⟩
     ·rw [if_neg c6] at H
      have c6b0 : (((rd_T56 l0 x5_1).f1.f0) == (wrap64 (x1_1 + 1))) = false := beq_eq_false_iff_ne.mpr c6
      have c6b1 : (((rd_T56 l0 x5_1).f1.f0) != (wrap64 (x1_1 + 1))) = true := bne_iff_ne.mpr c6
      obtain rfl := Option.some.inj H
      have p613 : 0 ≤ (x5_1 : Int) := od_
      have q613 : x5_1 < (l0.length : Int) := od_
      obtain ⟨ad613, e613, hx613_0, hx613_1, hx613_2, hx613_3, hx613_4, hx613_5, hx613_6, hx613_7, hx613_8, hx613_9⟩ := at_T56 HR0.out x5_1 p613 q613
      cases e613
      replace p613 := eq_true p613
      replace q613 := eq_true q613
      have p614 : 0 ≤ (x5_1 : Int) := od_
      have q614 : x5_1 < (l0.length : Int) := od_
      obtain ⟨ad614, e614, hx614_0, hx614_1, hx614_2, hx614_3, hx614_4, hx614_5, hx614_6, hx614_7, hx614_8, hx614_9⟩ := at_T56 HR0.out x5_1 p614 q614
      obtain rfl : ad613 = ad614 := (by injection e614)
      replace p614 := eq_true p614
      replace q614 := eq_true q614
      go_wp2
      go_ret
      exact ⟨by first | rfl | (simp; done) | (simp [*]; done), by repeat (first | exact Drawn0.refl _ | apply Drawn0.step)⟩
    ·rw [if_neg c5] at H
     have c5b0 : (((rd_T56 l0 x5_1).f0) == x1_1) = false := beq_eq_false_iff_ne.mpr c5
     have c5b1 : (((rd_T56 l0 x5_1).f0) != x1_1) = true := bne_iff_ne.mpr c5
     obtain rfl := Option.some.inj H
     have p613 : 0 ≤ (x5_1 : Int) := od_
     have q613 : x5_1 < (l0.length : Int) := od_
     obtain ⟨ad613, e613, hx613_0, hx613_1, hx613_2, hx613_3, hx613_4, hx613_5, hx613_6, hx613_7, hx613_8, hx613_9⟩ := at_T56 HR0.out x5_1 p613 q613
     cases e613
     replace p613 := eq_true p613
     replace q613 := eq_true q613
     go_wp2
     go_ret
     exact ⟨by first | rfl | (simp; done) | (simp [*]; done), by repeat (first | exact Drawn0.refl _ | apply Drawn0.step)⟩
   ·rw [if_neg c3] at H
    have c3b0 : decide (x5_1 < (l0.length : Int)) = false := decide_eq_false c3
    clear c3
    obtain rfl := Option.some.inj H
    go_wp2
    go_ret
    exact ⟨by first | rfl | (simp; done) | (simp [*]; done), by repeat (first | exact Drawn0.refl _ | apply Drawn0.step)⟩
end Go.Proofs.Ytjpjidgfcljpcaa.PA
