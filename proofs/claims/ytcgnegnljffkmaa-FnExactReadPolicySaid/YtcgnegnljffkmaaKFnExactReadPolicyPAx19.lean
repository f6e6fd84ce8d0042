import Derived.Test.YtcgnegnljffkmaaKFnExactReadPolicyPAx0
import Derived.Test.YtcgnegnljffkmaaKFnExactReadPolicyPAx3
import Derived.Test.YtcgnegnljffkmaaKFnExactReadPolicyPAx7
-- A text of this claim: written by the session's own program out of the translation (wip/tools). Lean checks it.
namespace Go.Proofs.Ytcgnegnljffkmaa.PA
open Go.RowKit Go.Proofs.YtcgnegnljffkmaaW.PrintWords Go.Proofs.YtcgnegnljffkmaaW.PrintLast Go.Proofs.YtcgnegnljffkmaaW.PrintMore
attribute [local go_sem] max2_int min2_int max_two min_two max_three min_three max_four min_four   -- for this text's walks alone
set_option linter.unusedVariables false
set_option linter.unusedSimpArgs false
mutual
def spec_ReadVar.l0 : Nat → ByteArray → Int → Int → Int → Int → Option (Int × Int × Bool)
 | 0, _, _, _, _, _ => none
 | k + 1, x0, x1, x7, x8, x9 => if x9 < (x0.size : Int) then (spec_ReadVar.j1 k x0 x1 x7 x8 x9 (decide (x9 < (wrap64 (x1 + 5))))) else (spec_ReadVar.j1 k x0 x1 x7 x8 x9 false)
def spec_ReadVar.j1 : Nat → ByteArray → Int → Int → Int → Int → Bool → Option (Int × Int × Bool)
 | 0, _, _, _, _, _, _ => none
 | k + 1, x0, x1, x7, x8, x9, x25 => if x25 = true then (if 0 ≤ x9 then (if x9 < (x0.size : Int) then (if (bt x0 x9) < 128 then (if (wrap64 (x7 + (wrap64 ((Int.tmod (wrap64 (bt x0 x9)) 128) * x8)))) > 1000000000 then (some (0, 0, false)) else ((spec_l01Var.f k (wrap64 (x7 + (wrap64 ((Int.tmod (wrap64 (bt x0 x9)) 128) * x8))))).bind fun t634 => (if 0 ≤ x1 then (if x1 ≤ (wrap64 (x9 + 1)) then (if (wrap64 (x9 + 1)) ≤ (x0.size : Int) then (if t634.toList = (x0.extract (x1 : Int).toNat ((wrap64 (x9 + 1)) : Int).toNat).toList then (some (wrap64 (x7 + (wrap64 ((Int.tmod (wrap64 (bt x0 x9)) 128) * x8))), wrap64 (x9 + 1), true)) else (some (0, 0, false))) else (none)) else (none)) else (none)))) else (spec_ReadVar.l0 k x0 x1 (wrap64 (x7 + (wrap64 ((Int.tmod (wrap64 (bt x0 x9)) 128) * x8)))) (wrap64 (x8 * 128)) (wrap64 (x9 + 1)))) else (none)) else (none)) else (some (0, 0, false))
end
def spec_ReadVar.f (k : Nat) (a0 : ByteArray) (a1 : Int) : Option (Int × Int × Bool) := (spec_l01In.f a1 0 (a0.size : Int)).bind fun t633 => (if t633 = true then (spec_ReadVar.l0 k a0 a1 0 1 a1) else (some (0, 0, false)))
def spec_ReadVar.T11 : Bool × List (List Nat × List Nat) := (true, [([], []), ([0], [0]), ([1], [1]), ([2], [2]), ([3, 2, 2], [2, 3]), ([2], [2]), ([2], [2]), ([2], [2]), ([7, 2], [2, 7]), ([5, 6, 8, 2], [2, 5, 6, 8]), ([4, 9, 2], [2, 4, 9]), ([2, 10], [2, 10])])
def spec_ReadVar.B11 : List Nat := [0, 1, 3, 7, 15, 7, 7, 7, 135, 487, 1023, 2047]
theorem spec_ReadVar.tab11 : rtab .any (opsOf Try.f116 11) = spec_ReadVar.T11 := by kernel_rfl
theorem spec_ReadVar.bits11 : waitsOk spec_ReadVar.T11.2 spec_ReadVar.B11 = true := by kernel_rfl
set_option maxHeartbeats 8000000 in
set_option maxRecDepth 100000 in
theorem spec_ReadVar.calls (k : Nat) (a0 : ByteArray) (a1 : Int) (r1 : Int) (r2 : Int) (r3 : Bool) (w : World) (h : spec_ReadVar.f k a0 a1 = some (r1, r2, r3)) :
  Calls Try.prog 116 #[.string a0, .int .i64 a1] w fun e w' => e = .returned (.tuple #[.int .i64 r1, .int .i64 r2, .bool r3]) ∧ Below w.heap.size w w' := by
 have HB := Aside0.mk (Below.refl w.heap.size w)
 have H : ((spec_l01In.f a1 0 (a0.size : Int)).bind fun t633 => (if t633 = true then (spec_ReadVar.l0 k a0 a1 0 1 a1) else (some (0, 0, false)))) = some (r1, r2, r3) := h
 clear h
 obtain ⟨t633, A3, H⟩ := bindE_ H
 by_cases c4 : t633 = true
 ·subst c4
  replace H := ite_t_ H
  have H' := Aside0.mk H
  clear H
  go_enter Try.func116, Try.ntmps116
  go_wp2_with (first | ((with_reducible refine gate_callee (f := 75) rfl ?_); refine goesC_ (some 13) Try.func75 #[.int .i64 a1, .int .i64 0, .int .i64 (a0.size : Int)] ?_; (with_reducible refine (spec_l01In.calls a1 0 (a0.size : Int) true _ A3.out).mono ?_); rintro e w' ⟨rfl, ⟨nd, rfl⟩⟩; refine ⟨_, rfl, ?_⟩))
  go_loopg [7, 8, 9] k (fun kq v7 v8 v9 w' => ∃ (x7_1 : Int) (x8_1 : Int) (x9_1 : Int), v7 = .int .i64 x7_1 ∧ v8 = .int .i64 x8_1 ∧ v9 = .int .i64 x9_1 ∧ Aside0 (spec_ReadVar.l0 kq a0 a1 x7_1 x8_1 x9_1 = some (r1, r2, r3)) ∧ Aside0 (kq ≤ k) ∧ Aside0 (Below w.heap.size w w'))
  case atStart => exact ⟨(0), (1), (a1), (by first | rfl | (simp; done) | (simp [*]; done)), (by first | rfl | (simp; done) | (simp [*]; done)), (by first | rfl | (simp; done) | (simp [*]; done)), H', ⟨Nat.le_refl _⟩, ⟨bl_⟩⟩
  case round =>
   clear H'
   try clear c1
   try clear p2
   try clear c4
   obtain ⟨x7_1, x8_1, x9_1, rfl, rfl, rfl, HA, HK1, HB⟩ := hrel
   cases gk with
   | zero => exact absurd HA.out (by simp [spec_ReadVar.l0])
   | succ k1 =>
    have H := HA.out
    clear HA
    simp only [spec_ReadVar.l0] at H
    have HC5 := Aside0.mk H
    clear H
    go_upto_region 6 with (fail)
    go_cut [25] (fun v25 wc => ∃ (kq : Nat) (x25_4 : Bool), v25 = .bool x25_4 ∧ Aside0 (spec_ReadVar.j1 kq a0 a1 x7_1 x8_1 x9_1 x25_4 = some (r1, r2, r3)) ∧ Aside0 (kq ≤ k1) ∧ Aside0 (Below w.heap.size w wc))
    case first =>
     have H := HC5.out
     clear HC5
     by_cases c6 : x9_1 < (a0.size : Int)
     ·rw [if_pos c6] at H
      have c6b0 : decide (x9_1 < (a0.size : Int)) = true := decide_eq_true c6
      clear c6
      (first | rw [c6b0] | (simp only [i64_w, i32_w]; rw [c6b0]) | skip)
      have H' := Aside0.mk H
      clear H
      go_wp2
      go_meet
      case rel => exact ⟨_, (decide (x9_1 < (wrap64 (a1 + 5)))), (by first | rfl | (simp; done) | (simp [*]; done)), H', ⟨by have := HK1.out; first | omega | exact Nat.le_refl _⟩, ⟨bl_⟩⟩
     ·rw [if_neg c6] at H
      have c6b0 : decide (x9_1 < (a0.size : Int)) = false := decide_eq_false c6
      clear c6
      (first | rw [c6b0] | (simp only [i64_w, i32_w]; rw [c6b0]) | skip)
      have H' := Aside0.mk H
      clear H
      go_wp2
      go_meet
      case rel => exact ⟨_, (false), (by first | rfl | (simp; done) | (simp [*]; done)), H', ⟨by have := HK1.out; first | omega | exact Nat.le_refl _⟩, ⟨bl_⟩⟩
    case rest =>
     clear HC5
     try clear c1
     try clear p2
     try clear c4
     try clear c6
     try clear c6b0
     try clear p6
     try clear p2
     obtain ⟨kq, x25_4, rfl, HA, HJ4, HB⟩ := hcut
     cases kq with
     | zero => exact absurd HA.out (by simp [spec_ReadVar.j1])
     | succ kj4 =>
      have H := HA.out
      clear HA
      simp only [spec_ReadVar.j1] at H
      by_cases c7 : x25_4 = true
      ·subst c7
       replace H := ite_t_ H
       by_cases c8 : 0 ≤ x9_1
       ·rw [if_pos c8] at H
        have c8b0 : decide (0 ≤ x9_1) = true := decide_eq_true c8
        clear c8
        by_cases c9 : x9_1 < (a0.size : Int)
        ·rw [if_pos c9] at H
         have c9b0 : decide (x9_1 < (a0.size : Int)) = true := decide_eq_true c9
         clear c9
         by_cases c12 : (bt a0 x9_1) < 128
         ·rw [if_pos c12] at H
          have c12b0 : decide ((bt a0 x9_1) < 128) = true := decide_eq_true c12
          clear c12
          by_cases c13 : (wrap64 (x7_1 + (wrap64 ((Int.tmod (wrap64 (bt a0 x9_1)) 128) * x8_1)))) > 1000000000
          ·rw [if_pos c13] at H
           have c13b0 : decide (1000000000 < (wrap64 (x7_1 + (wrap64 ((Int.tmod (wrap64 (bt a0 x9_1)) 128) * x8_1))))) = true := decide_eq_true c13
           clear c13
           simp only [Option.some.injEq, Prod.mk.injEq] at H
           obtain ⟨rfl, rfl, rfl⟩ := H
           have p10 : 0 ≤ (x9_1 : Int) := of_decide_eq_true (by first | (with_reducible assumption) | assumption)
           have q10 : x9_1 < (a0.size : Int) := of_decide_eq_true (by first | (with_reducible assumption) | assumption)
           have hx10 := bt_at a0 x9_1
           replace p10 := eq_true p10
           replace q10 := eq_true q10
           have p11 : 0 ≤ (x9_1 : Int) := of_decide_eq_true (by first | (with_reducible assumption) | assumption)
           have q11 : x9_1 < (a0.size : Int) := of_decide_eq_true (by first | (with_reducible assumption) | assumption)
           have hx11 := bt_at a0 x9_1
           replace p11 := eq_true p11
           replace q11 := eq_true q11
           try go_wp2
           replace HB := Aside0.mk (below_drew1 HB.out)
           refine start_ (n := 12) (S := fun w' => True) (ds := []) #[false, false, false, false, false, false, false, false, false, false, false, false] (by kernel_rfl) rfl rfl trivial (fun hHeld => ?_); refine with_tabW spec_ReadVar.tab11 spec_ReadVar.bits11 (fun HT_ HW_ => ?_)
           generalize wc.drew = w14 at HB hHeld ⊢
           refine pureZ_ (i := 0) (some 43) #[true, false, false, false, false, false, false, false, false, false, false, false] (any_of HT_.out (by kernel_rfl)) ?_
           refine pureZ_ (i := 1) (some 44) #[true, true, false, false, false, false, false, false, false, false, false, false] (any_of HT_.out (by kernel_rfl)) ?_
           refine pureZ_ (i := 2) (some 45) #[true, true, true, false, false, false, false, false, false, false, false, false] (any_of HT_.out (by kernel_rfl)) ?_
           refine pure_ (i := 3) (N := some 46) (v := undef) (a' := ?_) #[true, true, true, true, false, false, false, false, false, false, false, false] rfl rfl (any_of HT_.out (by kernel_rfl)) (fun _ _ _ h => h) (Or.inr ⟨by rfl, rfl⟩) ?_ ?_
           rotate_left
           ·simp only [Act.put, List.setIfInBounds_toArray, List.set_cons_zero, List.set_cons_succ, i64_w, i32_w]
            rfl
           refine pure_ (i := 4) (N := some 47) (v := undef) (a' := ?_) #[true, true, true, true, true, false, false, false, false, false, false, false] rfl rfl (any_of HT_.out (by kernel_rfl)) (fun _ _ _ h => h) (Or.inr ⟨by rfl, rfl⟩) ?_ ?_
           rotate_left
           ·simp only [Act.put, List.setIfInBounds_toArray, List.set_cons_zero, List.set_cons_succ, i64_w, i32_w]
            rfl
           refine pure_ (i := 5) (N := some 48) (v := undef) (a' := ?_) #[true, true, true, true, true, true, false, false, false, false, false, false] rfl rfl (any_of HT_.out (by kernel_rfl)) (fun _ _ _ h => h) (Or.inr ⟨by rfl, rfl⟩) ?_ ?_
           rotate_left
           ·simp only [Act.put, List.setIfInBounds_toArray, List.set_cons_zero, List.set_cons_succ, i64_w, i32_w]
            rfl
           refine pure_ (i := 6) (N := some 49) (v := undef) (a' := ?_) #[true, true, true, true, true, true, true, false, false, false, false, false] rfl rfl (any_of HT_.out (by kernel_rfl)) (fun _ _ _ h => h) (Or.inr ⟨by rfl, rfl⟩) ?_ ?_
           rotate_left
           ·simp only [Act.put, List.setIfInBounds_toArray, List.set_cons_zero, List.set_cons_succ, i64_w, i32_w]
            rfl
           refine pure_ (i := 7) (N := some 50) (v := undef) (a' := ?_) #[true, true, true, true, true, true, true, true, false, false, false, false] rfl rfl (any_of HT_.out (by kernel_rfl)) (fun _ _ _ h => h) (Or.inr ⟨by rfl, rfl⟩) ?_ ?_
           rotate_left
           ·simp only [Act.put, List.setIfInBounds_toArray, List.set_cons_zero, List.set_cons_succ, i64_w, i32_w]
            rfl
           refine pure_ (i := 8) (N := some 51) (v := undef) (a' := ?_) #[true, true, true, true, true, true, true, true, true, false, false, false] rfl rfl (any_of HT_.out (by kernel_rfl)) (fun _ _ _ h => h) (Or.inr ⟨by rfl, rfl⟩) ?_ ?_
           rotate_left
           ·simp only [Act.put, List.setIfInBounds_toArray, List.set_cons_zero, List.set_cons_succ, i64_w, i32_w]
            rfl
           refine pure_ (i := 9) (N := some 52) (v := undef) (a' := ?_) #[true, true, true, true, true, true, true, true, true, true, false, false] rfl rfl (any_of HT_.out (by kernel_rfl)) (fun _ _ _ h => h) (Or.inr ⟨by rfl, rfl⟩) ?_ ?_
           rotate_left
           ·simp only [Act.put, List.setIfInBounds_toArray, List.set_cons_zero, List.set_cons_succ, i64_w, i32_w]
            rfl
           refine pure_ (i := 10) (N := some 53) (v := undef) (a' := ?_) #[true, true, true, true, true, true, true, true, true, true, true, false] rfl rfl (any_of HT_.out (by kernel_rfl)) (fun _ _ _ h => h) (Or.inr ⟨by rfl, rfl⟩) ?_ ?_
           rotate_left
           ·simp only [Act.put, List.setIfInBounds_toArray, List.set_cons_zero, List.set_cons_succ, i64_w, i32_w]
            rfl
           refine pureZ_ (i := 11) (some 54) #[true, true, true, true, true, true, true, true, true, true, true, true] (any_of HT_.out (by kernel_rfl)) ?_
           refine done_ (done_of HT_.out (by kernel_rfl)) ?_
           try go_wp2
           go_ret3
           exact ⟨eq_, bl_⟩
          ·rw [if_neg c13] at H
           have c13b0 : decide (1000000000 < (wrap64 (x7_1 + (wrap64 ((Int.tmod (wrap64 (bt a0 x9_1)) 128) * x8_1))))) = false := decide_eq_false c13
           clear c13
           obtain ⟨t634, A15, H⟩ := bindE_ H
           by_cases c16 : 0 ≤ a1
           ·rw [if_pos c16] at H
            have c16b0 := eq_true c16
            have c16b1 : decide (0 ≤ a1) = true := decide_eq_true c16
            clear c16
            by_cases c17 : a1 ≤ (wrap64 (x9_1 + 1))
            ·rw [if_pos c17] at H
             have c17b0 := eq_true c17
             have c17b1 : decide (a1 ≤ (wrap64 (x9_1 + 1))) = true := decide_eq_true c17
             by_cases c18 : (wrap64 (x9_1 + 1)) ≤ (a0.size : Int)
             ·rw [if_pos c18] at H
              have c18b0 := eq_true c18
              have c18b1 : decide ((wrap64 (x9_1 + 1)) ≤ (a0.size : Int)) = true := decide_eq_true c18
              by_cases c19 : t634.toList = (a0.extract (a1 : Int).toNat ((wrap64 (x9_1 + 1)) : Int).toNat).toList
              ·rw [if_pos c19] at H
               have c19b0 : (t634.toList == (a0.extract (a1 : Int).toNat ((wrap64 (x9_1 + 1)) : Int).toNat).toList) = true := beq_iff_eq.mpr c19
               have c19b1 : (t634.toList != (a0.extract (a1 : Int).toNat ((wrap64 (x9_1 + 1)) : Int).toNat).toList) = false := bne_eq_false_iff_eq.mpr c19
               clear c19
               simp only [Option.some.injEq, Prod.mk.injEq] at H
               obtain ⟨rfl, rfl, rfl⟩ := H
               have p10 : 0 ≤ (x9_1 : Int) := of_decide_eq_true (by first | (with_reducible assumption) | assumption)
               have q10 : x9_1 < (a0.size : Int) := of_decide_eq_true (by first | (with_reducible assumption) | assumption)
               have hx10 := bt_at a0 x9_1
               replace p10 := eq_true p10
               replace q10 := eq_true q10
               have p11 : 0 ≤ (x9_1 : Int) := of_decide_eq_true (by first | (with_reducible assumption) | assumption)
               have q11 : x9_1 < (a0.size : Int) := of_decide_eq_true (by first | (with_reducible assumption) | assumption)
               have hx11 := bt_at a0 x9_1
               replace p11 := eq_true p11
               replace q11 := eq_true q11
               try go_wp2
               replace HB := Aside0.mk (below_drew1 HB.out)
               refine start_ (n := 12) (S := fun w' => True) (ds := []) #[false, false, false, false, false, false, false, false, false, false, false, false] (by kernel_rfl) rfl rfl trivial (fun hHeld => ?_); refine with_tabW spec_ReadVar.tab11 spec_ReadVar.bits11 (fun HT_ HW_ => ?_)
               generalize wc.drew = w20 at HB hHeld ⊢
               refine pureZ_ (i := 0) (some 43) #[true, false, false, false, false, false, false, false, false, false, false, false] (any_of HT_.out (by kernel_rfl)) ?_
               refine pureZ_ (i := 1) (some 44) #[true, true, false, false, false, false, false, false, false, false, false, false] (any_of HT_.out (by kernel_rfl)) ?_
               refine pureZ_ (i := 2) (some 45) #[true, true, true, false, false, false, false, false, false, false, false, false] (any_of HT_.out (by kernel_rfl)) ?_
               refine pureZ_ (i := 3) (some 46) #[true, true, true, true, false, false, false, false, false, false, false, false] (any_of HT_.out (by kernel_rfl)) ?_
               refine pureZ_ (i := 5) (some 48) #[true, true, true, true, false, true, false, false, false, false, false, false] (any_of HT_.out (by kernel_rfl)) ?_
               refine pureZ_ (i := 6) (some 49) #[true, true, true, true, false, true, true, false, false, false, false, false] (any_of HT_.out (by kernel_rfl)) ?_
               refine pureZ_ (i := 7) (some 50) #[true, true, true, true, false, true, true, true, false, false, false, false] (any_of HT_.out (by kernel_rfl)) ?_
               refine pureZ_ (i := 8) (some 51) #[true, true, true, true, false, true, true, true, true, false, false, false] (any_of HT_.out (by kernel_rfl)) ?_
               refine pureZ_ (i := 9) (some 52) #[true, true, true, true, false, true, true, true, true, true, false, false] (any_of HT_.out (by kernel_rfl)) ?_
               refine one_ (i := 4) (N := some 47) #[true, true, true, true, true, true, true, true, true, true, false, false] rfl rfl (one_of HT_.out (by kernel_rfl)) (by decide) (fun K hK => ?_)
               refine goes_ Try.func82 (by kernel_rfl) rfl #[.int .i64 (wrap64 (x7_1 + (wrap64 ((Int.tmod (wrap64 (bt a0 x9_1)) 128) * x8_1))))] (by rfl) rfl rfl (by (try simp only [List.map_toArray, List.map_cons, List.map_nil]); first | done | rfl | (simp only [List.length_drop, List.length_take]; rfl)) ?_
               with_reducible refine (spec_l01Var.calls kj4 (wrap64 (x7_1 + (wrap64 ((Int.tmod (wrap64 (bt a0 x9_1)) 128) * x8_1)))) t634 _ A15.out).mono ?_
               rintro e w21 ⟨rfl, hb⟩
               refine ⟨_, rfl, ?_⟩
               replace HB := hbs_ hb
               (try clear hb)
               (try clear hb2)
               (try clear hk)
               (try clear hi)
               refine hK.out _ _ trivial (fun hHeld => ?_)
               clear hK K
               refine norm_ (a' := ?_) ?_ ?_
               rotate_left
               ·show Act.put _ (some 47) _ = _
                simp only [Act.put, List.setIfInBounds_toArray, List.set_cons_zero, List.set_cons_succ, i64_w, i32_w]
                rfl
               refine pureZ_ (i := 10) (some 53) #[true, true, true, true, true, true, true, true, true, true, true, false] (any_of HT_.out (by kernel_rfl)) ?_
               refine pureZ_ (i := 11) (some 54) #[true, true, true, true, true, true, true, true, true, true, true, true] (any_of HT_.out (by kernel_rfl)) ?_
               refine done_ (done_of HT_.out (by kernel_rfl)) ?_
               try go_wp2
               go_ret3
               exact ⟨eq_, bl_⟩
              ·rw [if_neg c19] at H
               have c19b0 : (t634.toList == (a0.extract (a1 : Int).toNat ((wrap64 (x9_1 + 1)) : Int).toNat).toList) = false := beq_eq_false_iff_ne.mpr c19
               have c19b1 : (t634.toList != (a0.extract (a1 : Int).toNat ((wrap64 (x9_1 + 1)) : Int).toNat).toList) = true := bne_iff_ne.mpr c19
               simp only [Option.some.injEq, Prod.mk.injEq] at H
               obtain ⟨rfl, rfl, rfl⟩ := H
               have p10 : 0 ≤ (x9_1 : Int) := of_decide_eq_true (by first | (with_reducible assumption) | assumption)
               have q10 : x9_1 < (a0.size : Int) := of_decide_eq_true (by first | (with_reducible assumption) | assumption)
               have hx10 := bt_at a0 x9_1
               replace p10 := eq_true p10
               replace q10 := eq_true q10
               have p11 : 0 ≤ (x9_1 : Int) := of_decide_eq_true (by first | (with_reducible assumption) | assumption)
               have q11 : x9_1 < (a0.size : Int) := of_decide_eq_true (by first | (with_reducible assumption) | assumption)
               have hx11 := bt_at a0 x9_1
               replace p11 := eq_true p11
               replace q11 := eq_true q11
               try go_wp2
               replace HB := Aside0.mk (below_drew1 HB.out)
               refine start_ (n := 12) (S := fun w' => True) (ds := []) #[false, false, false, false, false, false, false, false, false, false, false, false] (by kernel_rfl) rfl rfl trivial (fun hHeld => ?_); refine with_tabW spec_ReadVar.tab11 spec_ReadVar.bits11 (fun HT_ HW_ => ?_)
               generalize wc.drew = w22 at HB hHeld ⊢
               refine pureZ_ (i := 0) (some 43) #[true, false, false, false, false, false, false, false, false, false, false, false] (any_of HT_.out (by kernel_rfl)) ?_
               refine pureZ_ (i := 1) (some 44) #[true, true, false, false, false, false, false, false, false, false, false, false] (any_of HT_.out (by kernel_rfl)) ?_
               refine pureZ_ (i := 2) (some 45) #[true, true, true, false, false, false, false, false, false, false, false, false] (any_of HT_.out (by kernel_rfl)) ?_
               refine pureZ_ (i := 3) (some 46) #[true, true, true, true, false, false, false, false, false, false, false, false] (any_of HT_.out (by kernel_rfl)) ?_
               refine pureZ_ (i := 5) (some 48) #[true, true, true, true, false, true, false, false, false, false, false, false] (any_of HT_.out (by kernel_rfl)) ?_
               refine pureZ_ (i := 6) (some 49) #[true, true, true, true, false, true, true, false, false, false, false, false] (any_of HT_.out (by kernel_rfl)) ?_
               refine pureZ_ (i := 7) (some 50) #[true, true, true, true, false, true, true, true, false, false, false, false] (any_of HT_.out (by kernel_rfl)) ?_
               refine pureZ_ (i := 8) (some 51) #[true, true, true, true, false, true, true, true, true, false, false, false] (any_of HT_.out (by kernel_rfl)) ?_
               refine pureZ_ (i := 9) (some 52) #[true, true, true, true, false, true, true, true, true, true, false, false] (any_of HT_.out (by kernel_rfl)) ?_
               refine one_ (i := 4) (N := some 47) #[true, true, true, true, true, true, true, true, true, true, false, false] rfl rfl (one_of HT_.out (by kernel_rfl)) (by decide) (fun K hK => ?_)
               refine goes_ Try.func82 (by kernel_rfl) rfl #[.int .i64 (wrap64 (x7_1 + (wrap64 ((Int.tmod (wrap64 (bt a0 x9_1)) 128) * x8_1))))] (by rfl) rfl rfl (by (try simp only [List.map_toArray, List.map_cons, List.map_nil]); first | done | rfl | (simp only [List.length_drop, List.length_take]; rfl)) ?_
               with_reducible refine (spec_l01Var.calls kj4 (wrap64 (x7_1 + (wrap64 ((Int.tmod (wrap64 (bt a0 x9_1)) 128) * x8_1)))) t634 _ A15.out).mono ?_
               rintro e w23 ⟨rfl, hb⟩
               refine ⟨_, rfl, ?_⟩
               replace HB := hbs_ hb
               (try clear hb)
               (try clear hb2)
               (try clear hk)
               (try clear hi)
               refine hK.out _ _ trivial (fun hHeld => ?_)
               clear hK K
               refine norm_ (a' := ?_) ?_ ?_
               rotate_left
               ·show Act.put _ (some 47) _ = _
                simp only [Act.put, List.setIfInBounds_toArray, List.set_cons_zero, List.set_cons_succ, i64_w, i32_w]
                rfl
               refine pureZ_ (i := 10) (some 53) #[true, true, true, true, true, true, true, true, true, true, true, false] (any_of HT_.out (by kernel_rfl)) ?_
               refine pureZ_ (i := 11) (some 54) #[true, true, true, true, true, true, true, true, true, true, true, true] (any_of HT_.out (by kernel_rfl)) ?_
               refine done_ (done_of HT_.out (by kernel_rfl)) ?_
               try go_wp2
               go_ret3
               exact ⟨eq_, bl_⟩
             ·rw [if_neg c18] at H
              exact absurd H (by simp)
            ·rw [if_neg c17] at H
             exact absurd H (by simp)
           ·rw [if_neg c16] at H
            exact absurd H (by simp)
         ·rw [if_neg c12] at H
          have c12b0 : decide ((bt a0 x9_1) < 128) = false := decide_eq_false c12
          clear c12
          have H' := Aside0.mk H
          clear H
          have p10 : 0 ≤ (x9_1 : Int) := of_decide_eq_true (by first | (with_reducible assumption) | assumption)
          have q10 : x9_1 < (a0.size : Int) := of_decide_eq_true (by first | (with_reducible assumption) | assumption)
          have hx10 := bt_at a0 x9_1
          replace p10 := eq_true p10
          replace q10 := eq_true q10
          have p11 : 0 ≤ (x9_1 : Int) := of_decide_eq_true (by first | (with_reducible assumption) | assumption)
          have q11 : x9_1 < (a0.size : Int) := of_decide_eq_true (by first | (with_reducible assumption) | assumption)
          have hx11 := bt_at a0 x9_1
          replace p11 := eq_true p11
          replace q11 := eq_true q11
          go_wp2
          go_roundg kj4
          case measure => have := HK1.out; have := HJ4.out; omega
          case rel => exact ⟨(wrap64 (x7_1 + (wrap64 ((Int.tmod (wrap64 (bt a0 x9_1)) 128) * x8_1)))), (wrap64 (x8_1 * 128)), (wrap64 (x9_1 + 1)), (by first | rfl | (simp; done) | (simp [*]; done)), (by first | rfl | (simp; done) | (simp [*]; done)), (by first | rfl | (simp; done) | (simp [*]; done)), H', ⟨by have := HK1.out; have := HJ4.out; omega⟩, ⟨bl_⟩⟩
        ·rw [if_neg c9] at H
         exact absurd H (by simp)
       ·rw [if_neg c8] at H
        exact absurd H (by simp)
      ·replace c7 := Bool.eq_false_iff.mpr c7
       subst c7
       replace H := ite_f_ H
       simp only [Option.some.injEq, Prod.mk.injEq] at H
       obtain ⟨rfl, rfl, rfl⟩ := H
       go_wp2
       go_ret3
       exact ⟨eq_, bl_⟩
 ·replace c4 := Bool.eq_false_iff.mpr c4
  subst c4
  replace H := ite_f_ H
  simp only [Option.some.injEq, Prod.mk.injEq] at H
  obtain ⟨rfl, rfl, rfl⟩ := H
  go_enter Try.func116, Try.ntmps116
  go_wp2_with (first | ((with_reducible refine gate_callee (f := 75) rfl ?_); refine goesC_ (some 13) Try.func75 #[.int .i64 a1, .int .i64 0, .int .i64 (a0.size : Int)] ?_; (with_reducible refine (spec_l01In.calls a1 0 (a0.size : Int) false _ A3.out).mono ?_); rintro e w' ⟨rfl, ⟨nd, rfl⟩⟩; refine ⟨_, rfl, ?_⟩))
  go_ret3
  exact ⟨eq_, bl_⟩
mutual
def spec_ReadPolicy.j0 : Nat → ByteArray → Int → Int → Bool → Option ((List (S105)) × Bool)
 | 0, _, _, _, _ => none
 | k + 1, x0, x4, x5, x25 => if x25 = true then (some (([] : List (S105)), false)) else (spec_ReadPolicy.l0 k x0 x4 x5 0 ([] : List (S105)))
def spec_ReadPolicy.l0 : Nat → ByteArray → Int → Int → Int → List (S105) → Option ((List (S105)) × Bool)
 | 0, _, _, _, _, _ => none
 | k + 1, x0, x4, x5, x8, x640000 => if x8 < x4 then (spec_ReadPolicy.l1 k x0 x4 x5 x8 (([] : List Int)) 0 x640000) else ((spec_PolicyText.f k x640000).bind fun t640 => (if t640.toList = x0.toList then (if x0.toList = ([] : List UInt8) then (some (([] : List (S105)), false)) else (some (x640000, true))) else (some (([] : List (S105)), false))))
def spec_ReadPolicy.l1 : Nat → ByteArray → Int → Int → Int → List Int → Int → List (S105) → Option ((List (S105)) × Bool)
 | 0, _, _, _, _, _, _, _ => none
 | k + 1, x0, x4, x5, x8, x9, x10, x640000 => if x10 < 5 then ((spec_ReadVar.f k x0 x5).bind fun bt644 => (if bt644.2.2 = true then (if x9.length < 17592186044416 then (spec_ReadPolicy.l1 k x0 x4 bt644.2.1 x8 (x9 ++ [bt644.1]) (wrap64 (x10 + 1)) x640000) else (none)) else (some (([] : List (S105)), false)))) else (if 0 < (x9.length : Int) then (if 1 < (x9.length : Int) then (if 2 < (x9.length : Int) then (if 3 < (x9.length : Int) then (if 4 < (x9.length : Int) then (if x640000.length < 3518437208883 then (spec_ReadPolicy.l0 k x0 x4 x5 (wrap64 (x8 + 1)) (x640000 ++ [(⟨rd x9 0, (⟨rd x9 1, rd x9 2⟩ : S27), rd x9 3, rd x9 4⟩ : S105)])) else (none)) else (none)) else (none)) else (none)) else (none)) else (none))
end
def spec_ReadPolicy.f (k : Nat) (a0 : ByteArray) : Option ((List (S105)) × Bool) := (spec_ReadVar.f k a0 0).bind fun bt636 => (if bt636.2.2 = true then (spec_ReadPolicy.j0 k a0 bt636.1 bt636.2.1 (decide (bt636.1 > 40))) else (spec_ReadPolicy.j0 k a0 bt636.1 bt636.2.1 true))
def spec_ReadPolicy.T17 : Bool × List (List Nat × List Nat) := (true, [([], []), ([0], [0]), ([], []), ([2], [2]), ([3], [3]), ([], []), ([5], [5]), ([6], [6]), ([], []), ([8], [8]), ([9], [9]), ([7, 10], [7, 10]), ([], []), ([12], [12]), ([13], [13]), ([], []), ([15], [15]), ([16], [16]), ([4, 11, 14, 17], [4, 11, 14, 17]), ([18], [18]), ([1, 19], [1, 19]), ([0, 1, 2, 3, 4, 5, 6, 7, 8, 9, 10, 11, 12, 13, 14, 15, 16, 17, 18, 19, 20], []), ([21, 20, 20, 0, 1, 2, 3, 4, 5, 6, 7, 8, 9, 10, 11, 12, 13, 14, 15, 16, 17, 18, 19, 20], [20, 21])])
def spec_ReadPolicy.B17 : List Nat := [0, 1, 0, 4, 12, 0, 32, 96, 0, 256, 768, 2016, 0, 4096, 12288, 0, 32768, 98304, 262140, 524284, 1048575, 2097151, 4194303]
theorem spec_ReadPolicy.tab17 : rtab .any (opsOf Try.f55 17) = spec_ReadPolicy.T17 := by kernel_rfl
theorem spec_ReadPolicy.bits17 : waitsOk spec_ReadPolicy.T17.2 spec_ReadPolicy.B17 = true := by kernel_rfl
set_option maxHeartbeats 8000000 in
set_option maxRecDepth 100000 in
theorem spec_ReadPolicy.calls (k : Nat) (a0 : ByteArray) (r1 : List (S105)) (r2 : Bool) (w : World) (h : spec_ReadPolicy.f k a0 = some (r1, r2)) :
  Calls Try.prog 55 #[.string a0] w fun e w' => ∃ v0_ : Value, e = .returned (.tuple #[.agg #[v0_], .bool r2]) ∧ Kd.R k105 105 w' w.heap.size (fun _ => True) v0_ r1 ∧ Below w.heap.size w w' := by
 have hu39 := Try.underlying39
 have hu27 := Try.underlying27
 have hu105 := Try.underlying105
 have HB := Aside0.mk (Below.refl w.heap.size w)
 have H : ((spec_ReadVar.f k a0 0).bind fun bt636 => (if bt636.2.2 = true then (spec_ReadPolicy.j0 k a0 bt636.1 bt636.2.1 (decide (bt636.1 > 40))) else (spec_ReadPolicy.j0 k a0 bt636.1 bt636.2.1 true))) = some (r1, r2) := h
 clear h
 obtain ⟨⟨t636, t637, t638⟩, A2, H⟩ := bindE_ H
 replace H : (if t638 = true then (spec_ReadPolicy.j0 k a0 t636 t637 (decide (t636 > 40))) else (spec_ReadPolicy.j0 k a0 t636 t637 true)) = some (r1, r2) := H
 have HC3 := Aside0.mk H
 clear H
 go_enter Try.func55, Try.ntmps55
 go_upto_region 2 with (first | ((with_reducible refine gate_dst (N := 2) rfl ?_); refine box_event ?hg (N := 2) ?hd (cs := #[.slice none 0 0]) (t := 39) ?hr ?_; (case hd => rfl); (case hg => rfl); (case hr => first | (go_simp; done) | (go_simp; rfl)); intro gb635 hg w4 hbox hb; have BK635 := Aside0.mk (hbox); have GW635 := gs_ hg; have GE635 := gs_ hg; replace HB := hbs_ hb; clear hb hbox hg) | ((with_reducible refine gate_callee (f := 116) rfl ?_); refine goesC_ (some 16) Try.func116 #[.string a0, .int .i64 0] ?_; (with_reducible refine (spec_ReadVar.calls k a0 0 t636 t637 t638 _ A2.out).mono ?_); rintro e w5 ⟨rfl, hb⟩; refine ⟨_, rfl, ?_⟩; replace BK635 := bkb_ BK635 hb; replace HB := hbs_ hb; clear hb))
 (try simp only [Act.put, List.setIfInBounds_toArray, List.set_cons_zero, List.set_cons_succ])
 go_cut [25] (fun v25 wc => ∃ (kq : Nat) (x25_2 : Bool), v25 = .bool x25_2 ∧ Aside0 (spec_ReadPolicy.j0 kq a0 t636 t637 x25_2 = some (r1, r2)) ∧ Aside0 (kq ≤ k) ∧ Aside0 (wc.heap[gb635]? = some (.cells #[(.slice none 0 0)] 39 (0, 0))) ∧ Aside0 (Below w.heap.size w wc))
 case first =>
  have H := HC3.out
  clear HC3
  by_cases c6 : t638 = true
  ·subst c6
   replace H := ite_t_ H
   have H' := Aside0.mk H
   clear H
   go_wp2
   go_meet
   case rel => exact ⟨_, (decide (t636 > 40)), (by first | rfl | (simp; done) | (simp [*]; done)), H', ⟨by first | omega | exact Nat.le_refl _⟩, ⟨bk_ BK635⟩, ⟨bl_⟩⟩
  ·replace c6 := Bool.eq_false_iff.mpr c6
   subst c6
   replace H := ite_f_ H
   have H' := Aside0.mk H
   clear H
   go_wp2
   go_meet
   case rel => exact ⟨_, (true), (by first | rfl | (simp; done) | (simp [*]; done)), H', ⟨by first | omega | exact Nat.le_refl _⟩, ⟨bk_ BK635⟩, ⟨bl_⟩⟩
 case rest =>
  clear HC3
  try clear c1
  try clear p2
  try clear c5
  try clear c6
  obtain ⟨kq, x25_2, rfl, HA, HJ2, BK635, HB⟩ := hcut
  cases kq with
  | zero => exact absurd HA.out (by simp [spec_ReadPolicy.j0])
  | succ kj2 =>
   have H := HA.out
   clear HA
   simp only [spec_ReadPolicy.j0] at H
   by_cases c7 : x25_2 = true
   ·subst c7
    replace H := ite_t_ H
    simp only [Option.some.injEq, Prod.mk.injEq] at H
    obtain ⟨rfl, rfl⟩ := H
    have hcz8 := blk_cell BK635.out
    have hfz8 := blk_frozen BK635.out
    go_wp2
    refine bodyPost_ret (results_ct rfl _ _ gb635 39 #[.slice none 0 0] (0, 0) _ rfl (bk_ BK635) Try.underlying39 rfl (by kernel_rfl)) rfl ?_
    exact ⟨_, eq_, by first | exact Kd.R_nil _ _ _ _ _ | exact Kd.N_nil _ _ _ _ _ | exact Kd.V_nil _ _ _ _ _ | exact Kd.Q_nil _ _ _ _ _ | exact Kd.S_nil _ _ _ _ _, bl_⟩
   ·replace c7 := Bool.eq_false_iff.mpr c7
    subst c7
    replace H := ite_f_ H
    have H' := Aside0.mk H
    clear H
    go_wp2_with (first | ((with_reducible refine gate_dst (N := 7) rfl ?_); refine box_event ?hg (N := 7) ?hd (cs := #[.slice none 0 0]) (t := 39) ?hr ?_; (case hd => rfl); (case hg => rfl); (case hr => first | (go_simp; done) | (go_simp; rfl)); intro gb639 hg w9 hbox hb; have BK639 := Aside0.mk (hbox); have GW639 := gs_ hg; have GE639 := gs_ hg; replace HB := hbs_ hb; have NB635_639 := Aside0.mk ((by rw [hg]; exact Nat.ne_of_lt (blk_lt (g := gb635) (o := .cells #[.slice none 0 0] 39 (0, 0)) (bk_ BK635)) : gb635 ≠ gb639)); have NB639_635 := Aside0.mk ((by rw [hg]; exact Nat.ne_of_gt (blk_lt (g := gb635) (o := .cells #[.slice none 0 0] 39 (0, 0)) (bk_ BK635)) : gb639 ≠ gb635)); replace BK635 := bkb_ BK635 hb; clear hb hbox hg; have hnb10 := NB639_635.out; have hnc10 := NB635_639.out; have hcz11 := blk_cell BK639.out; have hfz11 := blk_frozen BK639.out))
    go_loopg [5, 8] kj2 (fun kq v5 v8 w' => ∃ (x5_2 : Int) (x8_2 : Int) (x640000_2 : List (S105)) (u640000 : Value), v5 = .int .i64 x5_2 ∧ v8 = .int .i64 x8_2 ∧ Aside0 (spec_ReadPolicy.l0 kq a0 t636 x5_2 x8_2 x640000_2 = some (r1, r2)) ∧ Aside0 (kq ≤ kj2) ∧ Aside0 (Kd.R k105 105 w' w.heap.size (fun _ => True) u640000 x640000_2) ∧ Aside0 (w'.heap[gb635]? = some (.cells #[(.slice none 0 0)] 39 (0, 0))) ∧ Aside0 (w'.heap[gb639]? = some (.cells #[u640000] 39 (0, 0))) ∧ Aside0 (Below w.heap.size w w'))
    case atStart => exact ⟨(t637), (0), (([] : List (S105))), (.slice none 0 0), (by first | rfl | (simp; done) | (simp [*]; done)), (by first | rfl | (simp; done) | (simp [*]; done)), H', ⟨Nat.le_refl _⟩, ⟨by first | exact Kd.R_nil _ _ _ _ _ | exact Kd.N_nil _ _ _ _ _ | exact Kd.V_nil _ _ _ _ _ | exact Kd.Q_nil _ _ _ _ _ | exact Kd.S_nil _ _ _ _ _⟩, ⟨bk_ BK635⟩, ⟨bk_ BK639⟩, ⟨bl_⟩⟩
    case round =>
     clear H'
     try clear c1
     try clear p2
     try clear c5
     try clear c6
     try clear c7
     try clear c10
     try clear c11
     try clear hcz11
     try clear hcz8
     try clear hfz11
     try clear hfz8
     try clear p2
     obtain ⟨x5_2, x8_2, x640000_2, u640000, rfl, rfl, HA, HK2, HO_640000, BK635, BK639, HB⟩ := hrel
     cases gk with
     | zero => exact absurd HA.out (by simp [spec_ReadPolicy.l0])
     | succ k2 =>
      have H := HA.out
      clear HA
      simp only [spec_ReadPolicy.l0] at H
      by_cases c12 : x8_2 < t636
      ·rw [if_pos c12] at H
       have c12b0 : decide (x8_2 < t636) = true := decide_eq_true c12
       clear c12
       obtain ⟨y641, hy641⟩ : ∃ y_ : List Int, y_ = (([] : List Int)) := ⟨_, rfl⟩
       replace H : (spec_ReadPolicy.l1 k2 a0 t636 x5_2 x8_2 y641 0 x640000_2) = some (r1, r2) := by first | (rw [hy641]; with_reducible exact H) | (have H2_ := (Option.bind_some _ _).symm.trans H; rw [hy641]; with_reducible exact H2_) | (have H2_ := (Option.bind_some _ _).symm.trans H; with_reducible exact H2_) | with_reducible exact H | (rw [hy641]; exact H) | exact H
       have Ny641 := Aside0.mk hy641
       clear hy641
       have H' := Aside0.mk H
       clear H
       go_wp2_with (first | ((with_reducible refine gate_dst (N := 33) rfl ?_); refine Kd.R_lit (Kd.int .i64) _ 3 ?hg (N := 33) ?hd (xs := ([] : List Int)) (inner := []) (ok := fun _ => True) (okp := fun _ => True) ?hr ?hp (fun _ hk => hk) trivial (Below.refl _ _) (Nat.le_refl _) (by simp) ?_; (case hd => rfl); (case hg => rfl); (case hr => first | (go_simp; done) | (go_simp; rfl)); (case hp => exact (Reps.none _ _)); intro v642 w13 ho14 hb hg_ hnew_; clear hg_ hnew_; (first | rw [← Ny641.out] at ho14 | (simp only [Int.reduceToNat] at ho14; rw [← Ny641.out] at ho14)); replace HO_640000 := Aside0.mk (Kd.R_below (by (with_reducible repeat (first | apply Kd.R_alloc | apply Kd.R_drewN | apply Kd.R_drew)); exact HO_640000.out) hb); have HO643 := Aside0.mk (Kd.R_lower ho14 bls_); replace BK635 := bkb_ BK635 hb; replace BK639 := bkb_ BK639 hb; replace HB := hbs_ hb; clear hb ho14))
       go_loopg [5, 9, 10] k2 (fun kq v5 v9 v10 w' => ∃ (x5_3 : Int) (x9_3 : List Int) (x10_3 : Int), v5 = .int .i64 x5_3 ∧ v10 = .int .i64 x10_3 ∧ Aside0 (spec_ReadPolicy.l1 kq a0 t636 x5_3 x8_2 x9_3 x10_3 x640000_2 = some (r1, r2)) ∧ Aside0 (kq ≤ k2) ∧ Aside0 (Kd.R (Kd.int .i64) 3 w' w.heap.size (fun _ => True) v9 x9_3) ∧ Aside0 (Kd.R k105 105 w' w.heap.size (fun _ => True) u640000 x640000_2) ∧ Aside0 (w'.heap[gb635]? = some (.cells #[(.slice none 0 0)] 39 (0, 0))) ∧ Aside0 (w'.heap[gb639]? = some (.cells #[u640000] 39 (0, 0))) ∧ Aside0 (Below w.heap.size w w'))
       case atStart => exact ⟨(x5_2), (y641), (0), (by first | rfl | (simp; done) | (simp [*]; done)), (by first | rfl | (simp; done) | (simp [*]; done)), H', ⟨Nat.le_refl _⟩, ⟨by (with_reducible repeat (first | apply Kd.R_alloc | apply Kd.R_drewN | apply Kd.R_drew)); exact HO643.out⟩, ⟨by (with_reducible repeat (first | apply Kd.R_alloc | apply Kd.R_drewN | apply Kd.R_drew)); exact HO_640000.out⟩, ⟨bk_ BK635⟩, ⟨bk_ BK639⟩, ⟨bl_⟩⟩
       case round =>
        clear H'
        try clear c1
        try clear p2
        try clear c5
        try clear c6
        try clear c7
        try clear c10
        try clear c11
        try clear c12
        try clear c12b0
        try clear hcz11
        try clear hcz8
        try clear hfz11
        try clear hfz8
        try clear p2
        obtain ⟨x5_3, x9_3, x10_3, rfl, rfl, HA, HK3, HO_9, HO_640000, BK635, BK639, HB⟩ := hrel
        cases gk with
        | zero => exact absurd HA.out (by simp [spec_ReadPolicy.l1])
        | succ k3 =>
         have H := HA.out
         clear HA
         simp only [spec_ReadPolicy.l1] at H
         by_cases c15 : x10_3 < 5
         ·rw [if_pos c15] at H
          have c15b0 : decide (x10_3 < 5) = true := decide_eq_true c15
          clear c15
          obtain ⟨⟨t644, t645, t646⟩, A16, H⟩ := bindE_ H
          replace H : (if t646 = true then (if x9_3.length < 17592186044416 then (spec_ReadPolicy.l1 k3 a0 t636 t645 x8_2 (x9_3 ++ [t644]) (wrap64 (x10_3 + 1)) x640000_2) else (none)) else (some (([] : List (S105)), false))) = some (r1, r2) := H
          by_cases c17 : t646 = true
          ·subst c17
           replace H := ite_t_ H
           by_cases c18 : x9_3.length < 17592186044416
           ·rw [if_pos c18] at H
            have LMc18 := Aside0.mk c18
            clear c18
            obtain ⟨y647, hy647⟩ : ∃ y_ : List Int, y_ = (x9_3 ++ [t644]) := ⟨_, rfl⟩
            replace H : (spec_ReadPolicy.l1 k3 a0 t636 t645 x8_2 y647 (wrap64 (x10_3 + 1)) x640000_2) = some (r1, r2) := by first | (rw [hy647]; with_reducible exact H) | (have H2_ := (Option.bind_some _ _).symm.trans H; rw [hy647]; with_reducible exact H2_) | (have H2_ := (Option.bind_some _ _).symm.trans H; with_reducible exact H2_) | with_reducible exact H | (rw [hy647]; exact H) | exact H
            have Ny647 := Aside0.mk hy647
            clear hy647
            have H' := Aside0.mk H
            clear H
            go_wp2_with (first | ((with_reducible refine gate_callee (f := 116) rfl ?_); refine goesC_ (some 41) Try.func116 #[.string a0, .int .i64 x5_3] ?_; (with_reducible refine (spec_ReadVar.calls k3 a0 x5_3 t644 t645 true _ A16.out).mono ?_); rintro e w19 ⟨rfl, hb⟩; refine ⟨_, rfl, ?_⟩; replace HO_9 := Aside0.mk (Kd.R_below (by (with_reducible repeat (first | apply Kd.R_alloc | apply Kd.R_drewN | apply Kd.R_drew)); exact HO_9.out) hb); replace HO_640000 := Aside0.mk (Kd.R_below (by (with_reducible repeat (first | apply Kd.R_alloc | apply Kd.R_drewN | apply Kd.R_drew)); exact HO_640000.out) hb); replace BK635 := bkb_ BK635 hb; replace BK639 := bkb_ BK639 hb; replace HB := hbs_ hb; clear hb) | ((with_reducible refine gate_builtin (b := .append) (xs := #[.tmp 48, .tmp 50]) rfl ?_); at_builtin; refine Kd.R_append (Kd.int .i64) (w0 := w) w.heap.size rfl (.tmp 48) (.tmp 50) 70 3 (.int .i64 0) 8 rfl Try.underlying70 info3 rfl (by decide) (by omega) u9 x9_3 t644 [.int .i64 t644] (fun _ => True) (fun _ => False) rfl rfl ?aP (fun _ hk => hk.elim) ?aF ?aO ?aB ?aS ?aL ?_; (case aP => exact rfl); (case aB => exact bl_); (case aF => exact (fun _ _ => trivial)); (case aO => exact (by (with_reducible repeat (first | apply Kd.R_alloc | apply Kd.R_drewN | apply Kd.R_drew)); exact HO_9.out)); (case aS => exact bls_); (case aL => have := LMc18.out; omega); intro v648 w20 ho hb hg hat; rw [← Ny647.out] at ho; replace HO_640000 := Aside0.mk (Kd.R_over' (by (with_reducible repeat (first | apply Kd.R_alloc | apply Kd.R_drewN | apply Kd.R_drew)); exact HO_640000.out) (Kd.R_typed (by (with_reducible repeat (first | apply Kd.R_alloc | apply Kd.R_drewN | apply Kd.R_drew)); exact HO_9.out)) (by decide) hg); replace BK635 := Aside0.mk (blk_grown (g := gb635) (o := .cells #[.slice none 0 0] 39 (0, 0)) (bk_ BK635) hg (Kd.R_ne HO_9.out BK635.out (by decide))); replace BK639 := Aside0.mk (blk_grown (g := gb639) (o := .cells #[u640000] 39 (0, 0)) (bk_ BK639) hg (Kd.R_ne HO_9.out BK639.out (by decide))); replace HB := Aside0.mk (hb); have HO649 := Aside0.mk (ho); clear HO_9; clear ho hb hg hat))
            go_roundg k3
            case measure => have := HJ2.out; have := HK2.out; have := HK3.out; omega
            case rel => exact ⟨(t645), (y647), (wrap64 (x10_3 + 1)), (by first | rfl | (simp; done) | (simp [*]; done)), (by first | rfl | (simp; done) | (simp [*]; done)), H', ⟨by have := HJ2.out; have := HK2.out; have := HK3.out; omega⟩, ⟨by (with_reducible repeat (first | apply Kd.R_alloc | apply Kd.R_drewN | apply Kd.R_drew)); exact HO649.out⟩, ⟨by (with_reducible repeat (first | apply Kd.R_alloc | apply Kd.R_drewN | apply Kd.R_drew)); exact HO_640000.out⟩, ⟨bk_ BK635⟩, ⟨bk_ BK639⟩, ⟨bl_⟩⟩
           ·rw [if_neg c18] at H
            exact absurd H (by simp)
          ·replace c17 := Bool.eq_false_iff.mpr c17
           subst c17
           replace H := ite_f_ H
           simp only [Option.some.injEq, Prod.mk.injEq] at H
           obtain ⟨rfl, rfl⟩ := H
           go_wp2_with (first | ((with_reducible refine gate_callee (f := 116) rfl ?_); refine goesC_ (some 41) Try.func116 #[.string a0, .int .i64 x5_3] ?_; (with_reducible refine (spec_ReadVar.calls k3 a0 x5_3 t644 t645 false _ A16.out).mono ?_); rintro e w21 ⟨rfl, hb⟩; refine ⟨_, rfl, ?_⟩; replace HO_9 := Aside0.mk (Kd.R_below (by (with_reducible repeat (first | apply Kd.R_alloc | apply Kd.R_drewN | apply Kd.R_drew)); exact HO_9.out) hb); replace HO_640000 := Aside0.mk (Kd.R_below (by (with_reducible repeat (first | apply Kd.R_alloc | apply Kd.R_drewN | apply Kd.R_drew)); exact HO_640000.out) hb); replace BK635 := bkb_ BK635 hb; replace BK639 := bkb_ BK639 hb; replace HB := hbs_ hb; clear hb; have hnb22 := NB635_639.out; have hnc22 := NB639_635.out; have hcz23 := blk_cell BK635.out; have hfz23 := blk_frozen BK635.out))
           refine bodyPost_ret (results_ct rfl _ _ gb635 39 #[.slice none 0 0] (0, 0) _ rfl (bk_ BK635) Try.underlying39 rfl (by kernel_rfl)) rfl ?_
           exact ⟨_, eq_, by first | exact Kd.R_nil _ _ _ _ _ | exact Kd.N_nil _ _ _ _ _ | exact Kd.V_nil _ _ _ _ _ | exact Kd.Q_nil _ _ _ _ _ | exact Kd.S_nil _ _ _ _ _, bl_⟩
         ·rw [if_neg c15] at H
          have c15b0 : decide (x10_3 < 5) = false := decide_eq_false c15
          clear c15
          by_cases c24 : 0 < (x9_3.length : Int)
          ·rw [if_pos c24] at H
           have c24b0 : decide (0 < (x9_3.length : Int)) = true := decide_eq_true c24
           have c24b1 : decide (0 < x9_3.length) = true := decide_eq_true (by omega)
           clear c24
           by_cases c25 : 1 < (x9_3.length : Int)
           ·rw [if_pos c25] at H
            have c25b0 : decide (1 < (x9_3.length : Int)) = true := decide_eq_true c25
            have c25b1 : decide (1 < x9_3.length) = true := decide_eq_true (by omega)
            clear c25
            by_cases c26 : 2 < (x9_3.length : Int)
            ·rw [if_pos c26] at H
             have c26b0 : decide (2 < (x9_3.length : Int)) = true := decide_eq_true c26
             have c26b1 : decide (2 < x9_3.length) = true := decide_eq_true (by omega)
             clear c26
             by_cases c27 : 3 < (x9_3.length : Int)
             ·rw [if_pos c27] at H
              have c27b0 : decide (3 < (x9_3.length : Int)) = true := decide_eq_true c27
              have c27b1 : decide (3 < x9_3.length) = true := decide_eq_true (by omega)
              clear c27
              by_cases c28 : 4 < (x9_3.length : Int)
              ·rw [if_pos c28] at H
               have c28b0 : decide (4 < (x9_3.length : Int)) = true := decide_eq_true c28
               have c28b1 : decide (4 < x9_3.length) = true := decide_eq_true (by omega)
               clear c28
               by_cases c29 : x640000_2.length < 3518437208883
               ·rw [if_pos c29] at H
                have LMc29 := Aside0.mk c29
                clear c29
                obtain ⟨y655, hy655⟩ : ∃ y_ : List (S105), y_ = (x640000_2 ++ [(⟨rd x9_3 0, (⟨rd x9_3 1, rd x9_3 2⟩ : S27), rd x9_3 3, rd x9_3 4⟩ : S105)]) := ⟨_, rfl⟩
                replace H : (spec_ReadPolicy.l0 k3 a0 t636 x5_3 (wrap64 (x8_2 + 1)) y655) = some (r1, r2) := by first | (rw [hy655]; with_reducible exact H) | (have H2_ := (Option.bind_some _ _).symm.trans H; rw [hy655]; with_reducible exact H2_) | (have H2_ := (Option.bind_some _ _).symm.trans H; with_reducible exact H2_) | with_reducible exact H | (rw [hy655]; exact H) | exact H
                have Ny655 := Aside0.mk hy655
                clear hy655
                have H' := Aside0.mk H
                clear H
                try go_wp2
                replace HO_9 := Aside0.mk (Kd.R_drew HO_9.out)
                replace HO_640000 := Aside0.mk (Kd.R_drew HO_640000.out)
                replace BK635 := Aside0.mk (blk_drew BK635.out)
                replace BK639 := Aside0.mk (blk_drew BK639.out)
                replace HB := Aside0.mk (below_drew1 HB.out)
                obtain ⟨Ao31, co31, eo31⟩ := Kd.R_slice HO_9.out
                (first | subst eo31 | (injection eo31 with f1_ f2_ f3_; have f4_ := f1_.symm; have f5_ := f3_.symm; clear f1_ f2_ f3_; subst f4_; subst f5_))
                have p650 : 0 ≤ (0 : Int) := (by omega)
                have q650 : 0 < (x9_3.length : Int) := of_decide_eq_true (by first | (with_reducible assumption) | assumption)
                obtain ⟨ad650, e650, hx650_0⟩ := Kd.at_int (Kd.R_reads' HO_9.out).2.2 0 p650 q650
                cases e650
                have qi650 : (0 < x9_3.length) = True := eq_true (by omega)
                (try rw [show ((0 : Int)).toNat = 0 from rfl] at hx650_0)
                (try rw [Addr.add_zero'] at hx650_0)
                replace p650 := eq_true p650
                replace q650 := eq_true q650
                have p651 : 0 ≤ (1 : Int) := (by omega)
                have q651 : 1 < (x9_3.length : Int) := of_decide_eq_true (by first | (with_reducible assumption) | assumption)
                obtain ⟨ad651, e651, hx651_0⟩ := Kd.at_int (Kd.R_reads' HO_9.out).2.2 1 p651 q651
                obtain rfl : ad650 = ad651 := (by injection e651)
                (try simp only [show (1 : Int).toNat = 1 from rfl, Nat.reduceMul, Nat.reduceEqDiff, Go.Addr.add, ↓reduceIte] at hx651_0)
                have qi651 : (1 < x9_3.length) = True := eq_true (by omega)
                (try rw [show ((1 : Int)).toNat = 1 from rfl] at hx651_0)
                replace p651 := eq_true p651
                replace q651 := eq_true q651
                have p652 : 0 ≤ (2 : Int) := (by omega)
                have q652 : 2 < (x9_3.length : Int) := of_decide_eq_true (by first | (with_reducible assumption) | assumption)
                obtain ⟨ad652, e652, hx652_0⟩ := Kd.at_int (Kd.R_reads' HO_9.out).2.2 2 p652 q652
                obtain rfl : ad650 = ad652 := (by injection e652)
                (try simp only [show (2 : Int).toNat = 2 from rfl, Nat.reduceMul, Nat.reduceEqDiff, Go.Addr.add, ↓reduceIte] at hx652_0)
                have qi652 : (2 < x9_3.length) = True := eq_true (by omega)
                (try rw [show ((2 : Int)).toNat = 2 from rfl] at hx652_0)
                replace p652 := eq_true p652
                replace q652 := eq_true q652
                have p653 : 0 ≤ (3 : Int) := (by omega)
                have q653 : 3 < (x9_3.length : Int) := of_decide_eq_true (by first | (with_reducible assumption) | assumption)
                obtain ⟨ad653, e653, hx653_0⟩ := Kd.at_int (Kd.R_reads' HO_9.out).2.2 3 p653 q653
                obtain rfl : ad650 = ad653 := (by injection e653)
                (try simp only [show (3 : Int).toNat = 3 from rfl, Nat.reduceMul, Nat.reduceEqDiff, Go.Addr.add, ↓reduceIte] at hx653_0)
                have qi653 : (3 < x9_3.length) = True := eq_true (by omega)
                (try rw [show ((3 : Int)).toNat = 3 from rfl] at hx653_0)
                replace p653 := eq_true p653
                replace q653 := eq_true q653
                have p654 : 0 ≤ (4 : Int) := (by omega)
                have q654 : 4 < (x9_3.length : Int) := of_decide_eq_true (by first | (with_reducible assumption) | assumption)
                obtain ⟨ad654, e654, hx654_0⟩ := Kd.at_int (Kd.R_reads' HO_9.out).2.2 4 p654 q654
                obtain rfl : ad650 = ad654 := (by injection e654)
                (try simp only [show (4 : Int).toNat = 4 from rfl, Nat.reduceMul, Nat.reduceEqDiff, Go.Addr.add, ↓reduceIte] at hx654_0)
                have qi654 : (4 < x9_3.length) = True := eq_true (by omega)
                (try rw [show ((4 : Int)).toNat = 4 from rfl] at hx654_0)
                replace p654 := eq_true p654
                replace q654 := eq_true q654
                refine start_ (n := 23) (S := fun w' => w'.cell? ⟨gb639, 0, none⟩ = some (u640000) ∧ w'.cell? ad650 = some (.int .i64 (rd x9_3 0)) ∧ w'.cell? ⟨ad650.block, ad650.off + 1, none⟩ = some (.int .i64 (rd x9_3 1)) ∧ w'.cell? ⟨ad650.block, ad650.off + 2, none⟩ = some (.int .i64 (rd x9_3 2)) ∧ w'.cell? ⟨ad650.block, ad650.off + 3, none⟩ = some (.int .i64 (rd x9_3 3)) ∧ w'.cell? ⟨ad650.block, ad650.off + 4, none⟩ = some (.int .i64 (rd x9_3 4))) (ds := [20, 22]) #[false, false, false, false, false, false, false, false, false, false, false, false, false, false, false, false, false, false, false, false, false, false, false] (by kernel_rfl) rfl rfl ⟨(blk_cell BK639.out 0).trans rfl, hx650_0, hx651_0, hx652_0, hx653_0, hx654_0⟩ (fun hHeld => ?_); refine with_tabW spec_ReadPolicy.tab17 spec_ReadPolicy.bits17 (fun HT_ HW_ => ?_)
                generalize wr.drew = w30 at HO_9 HO_640000 BK635 BK639 HB hx650_0 hx651_0 hx652_0 hx653_0 hx654_0 hHeld ⊢
                refine pureZ_ (i := 0) (some 53) #[true, false, false, false, false, false, false, false, false, false, false, false, false, false, false, false, false, false, false, false, false, false, false] (any_of HT_.out (by kernel_rfl)) ?_
                refine pureZ_ (i := 2) (some 55) #[true, false, true, false, false, false, false, false, false, false, false, false, false, false, false, false, false, false, false, false, false, false, false] (any_of HT_.out (by kernel_rfl)) ?_
                refine pureZ_ (i := 3) (some 56) #[true, false, true, true, false, false, false, false, false, false, false, false, false, false, false, false, false, false, false, false, false, false, false] (any_of HT_.out (by kernel_rfl)) ?_
                refine pureZ_ (i := 5) (some 58) #[true, false, true, true, false, true, false, false, false, false, false, false, false, false, false, false, false, false, false, false, false, false, false] (any_of HT_.out (by kernel_rfl)) ?_
                refine pureZ_ (i := 6) (some 59) #[true, false, true, true, false, true, true, false, false, false, false, false, false, false, false, false, false, false, false, false, false, false, false] (any_of HT_.out (by kernel_rfl)) ?_
                refine pureZ_ (i := 8) (some 61) #[true, false, true, true, false, true, true, false, true, false, false, false, false, false, false, false, false, false, false, false, false, false, false] (any_of HT_.out (by kernel_rfl)) ?_
                refine pureZ_ (i := 9) (some 62) #[true, false, true, true, false, true, true, false, true, true, false, false, false, false, false, false, false, false, false, false, false, false, false] (any_of HT_.out (by kernel_rfl)) ?_
                refine pureZ_ (i := 12) (some 65) #[true, false, true, true, false, true, true, false, true, true, false, false, true, false, false, false, false, false, false, false, false, false, false] (any_of HT_.out (by kernel_rfl)) ?_
                refine pureZ_ (i := 13) (some 66) #[true, false, true, true, false, true, true, false, true, true, false, false, true, true, false, false, false, false, false, false, false, false, false] (any_of HT_.out (by kernel_rfl)) ?_
                refine pureZ_ (i := 15) (some 68) #[true, false, true, true, false, true, true, false, true, true, false, false, true, true, false, true, false, false, false, false, false, false, false] (any_of HT_.out (by kernel_rfl)) ?_
                refine pureZ_ (i := 16) (some 69) #[true, false, true, true, false, true, true, false, true, true, false, false, true, true, false, true, true, false, false, false, false, false, false] (any_of HT_.out (by kernel_rfl)) ?_
                refine takeZ_ (i := 1) (some 54) #[true, true, true, true, false, true, true, false, true, true, false, false, true, true, false, true, true, false, false, false, false, false, false] (take_ofW HT_.out HW_.out (by kernel_rfl)) hHeld ?_
                refine takeZ_ (i := 4) (some 57) #[true, true, true, true, true, true, true, false, true, true, false, false, true, true, false, true, true, false, false, false, false, false, false] (take_ofW HT_.out HW_.out (by kernel_rfl)) hHeld ?_
                refine takeZ_ (i := 7) (some 60) #[true, true, true, true, true, true, true, true, true, true, false, false, true, true, false, true, true, false, false, false, false, false, false] (take_ofW HT_.out HW_.out (by kernel_rfl)) hHeld ?_
                refine takeZ_ (i := 10) (some 63) #[true, true, true, true, true, true, true, true, true, true, true, false, true, true, false, true, true, false, false, false, false, false, false] (take_ofW HT_.out HW_.out (by kernel_rfl)) hHeld ?_
                refine pureZ_ (i := 11) (some 64) #[true, true, true, true, true, true, true, true, true, true, true, true, true, true, false, true, true, false, false, false, false, false, false] (any_of HT_.out (by kernel_rfl)) ?_
                refine takeZ_ (i := 14) (some 67) #[true, true, true, true, true, true, true, true, true, true, true, true, true, true, true, true, true, false, false, false, false, false, false] (take_ofW HT_.out HW_.out (by kernel_rfl)) hHeld ?_
                refine takeZ_ (i := 17) (some 70) #[true, true, true, true, true, true, true, true, true, true, true, true, true, true, true, true, true, true, false, false, false, false, false] (take_ofW HT_.out HW_.out (by kernel_rfl)) hHeld ?_
                refine pureZ_ (i := 18) (some 71) #[true, true, true, true, true, true, true, true, true, true, true, true, true, true, true, true, true, true, true, false, false, false, false] (any_of HT_.out (by kernel_rfl)) ?_
                refine one_ (i := 19) (N := some 72) #[true, true, true, true, true, true, true, true, true, true, true, true, true, true, true, true, true, true, true, true, false, false, false] rfl rfl (one_of HT_.out (by kernel_rfl)) (by decide) (fun K hK => ?_)
                refine value_ (w1 := ?_) (v := ?_) (by rfl) rfl ?_ ?_
                rotate_left 2
                ·go_simp
                 constructor
                 ·rfl
                 ·rfl
                refine hK.out _ _ ⟨(blk_cell (blk_alloc BK639.out _) 0).trans rfl, (World.cell?_alloc_lt _ _ _ (World.block_lt_of_cell? _ _ (hHeld.2.1))).trans (hHeld.2.1), (World.cell?_alloc_lt _ _ _ (World.block_lt_of_cell? _ _ (hHeld.2.2.1))).trans (hHeld.2.2.1), (World.cell?_alloc_lt _ _ _ (World.block_lt_of_cell? _ _ (hHeld.2.2.2.1))).trans (hHeld.2.2.2.1), (World.cell?_alloc_lt _ _ _ (World.block_lt_of_cell? _ _ (hHeld.2.2.2.2.1))).trans (hHeld.2.2.2.2.1), (World.cell?_alloc_lt _ _ _ (World.block_lt_of_cell? _ _ (hHeld.2.2.2.2.2))).trans (hHeld.2.2.2.2.2)⟩ (fun hHeld => ?_)
                clear hK K
                refine norm_ (a' := ?_) ?_ ?_
                rotate_left
                ·show Act.put _ (some 72) _ = _
                 simp only [Act.put, List.setIfInBounds_toArray, List.set_cons_zero, List.set_cons_succ, i64_w, i32_w]
                 rfl
                refine last_ (i := 20) (N := some 73) #[true, true, true, true, true, true, true, true, true, true, true, true, true, true, true, true, true, true, true, true, true, false, false] rfl rfl (one_of HT_.out (by kernel_rfl)) (by decide) (fun K hK => ?_)
                refine Kd.R_append_step k105 (w0 := w) w.heap.size (by rfl) (.tmp 54) (.tmp 72) 37 105 (.agg #[(.int .i64 0), (.int .i64 0), (.int .i64 0), (.int .i64 0), (.int .i64 0)]) 40 rfl Try.underlying37 info105 rfl (by decide) (by omega) u640000 x640000_2 (⟨rd x9_3 0, (⟨rd x9_3 1, rd x9_3 2⟩ : S27), rd x9_3 3, rd x9_3 4⟩ : S105) [.int .i64 (rd x9_3 0), .int .i64 (rd x9_3 1), .int .i64 (rd x9_3 2), .int .i64 (rd x9_3 3), .int .i64 (rd x9_3 4)] (fun _ => True) (fun _ => False) rfl rfl ?aP (fun _ hk => hk.elim) ?aF ?aO ?aB ?aS ?aL ?_
                (case aP => exact k105_mkM _ _ _ (⟨rd x9_3 0, (⟨rd x9_3 1, rd x9_3 2⟩ : S27), rd x9_3 3, rd x9_3 4⟩ : S105))
                (case aB => exact bl_)
                (case aF => exact (fun _ _ => trivial))
                (case aO => exact (by (with_reducible repeat (first | apply Kd.R_alloc | apply Kd.R_drewN | apply Kd.R_drew)); exact HO_640000.out))
                (case aS => exact bls_)
                (case aL => have := LMc29.out; omega)
                intro v656 w32 ho hb hg hat
                rw [← Ny655.out] at ho
                replace HO_9 := Aside0.mk (Kd.R_over' (by (with_reducible repeat (first | apply Kd.R_alloc | apply Kd.R_drewN | apply Kd.R_drew)); exact HO_9.out) (Kd.R_typed (by (with_reducible repeat (first | apply Kd.R_alloc | apply Kd.R_drewN | apply Kd.R_drew)); exact HO_640000.out)) (by decide) hg)
                replace BK635 := Aside0.mk (blk_grown (g := gb635) (o := .cells #[.slice none 0 0] 39 (0, 0)) (bk_ BK635) hg (Kd.R_ne HO_640000.out BK635.out (by decide)))
                replace BK639 := Aside0.mk (blk_grown (g := gb639) (o := .cells #[u640000] 39 (0, 0)) (bk_ BK639) hg (Kd.R_ne HO_640000.out BK639.out (by decide)))
                replace HB := Aside0.mk (hb)
                have HO657 := Aside0.mk (ho)
                clear HO_640000
                clear ho hb hg hat
                obtain ⟨Ao33, co33, eo33⟩ := Kd.R_slice HO657.out
                (first | subst eo33 | (injection eo33 with f1_ f2_ f3_; have f4_ := f1_.symm; have f5_ := f3_.symm; clear f1_ f2_ f3_; subst f4_; subst f5_))
                refine hK.out _ _ ?_
                clear hK K
                refine norm_ (a' := ?_) ?_ ?_
                rotate_left
                ·show Act.put _ (some 73) _ = _
                 simp only [Act.put, List.setIfInBounds_toArray, List.set_cons_zero, List.set_cons_succ, i64_w, i32_w]
                 rfl
                refine pureZ_ (i := 21) (some 74) #[true, true, true, true, true, true, true, true, true, true, true, true, true, true, true, true, true, true, true, true, true, true, false] (any_of HT_.out (by kernel_rfl)) ?_
                refine last_ (i := 22) (N := none) #[true, true, true, true, true, true, true, true, true, true, true, true, true, true, true, true, true, true, true, true, true, true, true] rfl rfl (one_of HT_.out (by kernel_rfl)) (by decide) (fun K hK => ?_)
                have hs34 : w32.cell? ⟨gb639, 0, none⟩ = some (u640000) := (blk_cell BK639.out 0).trans rfl
                have hfs34 := blk_frozen BK639.out 0
                have hns34_0 := NB635_639.out
                have hms34_0 := NB639_635.out
                refine skip_ (w1 := ?_) (by rfl) rfl ?_ ?_
                rotate_left
                ·go_simp
                 rfl
                refine hK.out _ _ ?_
                clear hK K
                refine done_ (done_of HT_.out (by kernel_rfl)) ?_
                try go_wp2
                go_roundg k3
                case measure => have := HJ2.out; have := HK2.out; have := HK3.out; omega
                case rel => exact ⟨(x5_3), (wrap64 (x8_2 + 1)), (y655), (.slice Ao33 y655.length co33), (by first | rfl | (simp; done) | (simp [*]; done)), (by first | rfl | (simp; done) | (simp [*]; done)), H', ⟨by have := HJ2.out; have := HK2.out; have := HK3.out; omega⟩, ⟨by (with_reducible repeat (first | apply Kd.R_alloc | apply Kd.R_drewN | apply Kd.R_drew)); exact Kd.R_mono (Kd.R_far (p := ⟨gb639, 0, none⟩) (Kd.R_types HO657.out BK639.out (by decide)) (fun _ hk => hk.2) (.slice Ao33 y655.length co33)) (fun _ hk => trivial)⟩, ⟨bk_ BK635⟩, ⟨bk_ BK639⟩, ⟨bl_⟩⟩
               ·rw [if_neg c29] at H
                exact absurd H (by simp)
              ·rw [if_neg c28] at H
               exact absurd H (by simp)
             ·rw [if_neg c27] at H
              exact absurd H (by simp)
            ·rw [if_neg c26] at H
             exact absurd H (by simp)
           ·rw [if_neg c25] at H
            exact absurd H (by simp)
          ·rw [if_neg c24] at H
           exact absurd H (by simp)
      ·rw [if_neg c12] at H
       have c12b0 : decide (x8_2 < t636) = false := decide_eq_false c12
       clear c12
       obtain ⟨t640, A35, H⟩ := bindE_ H
       by_cases c36 : t640.toList = a0.toList
       ·rw [if_pos c36] at H
        have c36b0 : (t640.toList == a0.toList) = true := beq_iff_eq.mpr c36
        have c36b1 : (t640.toList != a0.toList) = false := bne_eq_false_iff_eq.mpr c36
        clear c36
        by_cases c37 : a0.toList = ([] : List UInt8)
        ·rw [if_pos c37] at H
         have c37b0 : (a0.toList == ([] : List UInt8)) = true := beq_iff_eq.mpr c37
         have c37b1 : (a0.toList != ([] : List UInt8)) = false := bne_eq_false_iff_eq.mpr c37
         clear c37
         simp only [Option.some.injEq, Prod.mk.injEq] at H
         obtain ⟨rfl, rfl⟩ := H
         have hnb38 := NB639_635.out
         have hnc38 := NB635_639.out
         have hcz39 := blk_cell BK639.out
         have hfz39 := blk_frozen BK639.out
         obtain ⟨Ao40, co40, eo40⟩ := Kd.R_slice HO_640000.out
         subst eo40
         go_wp2_with (first | ((with_reducible refine gate_callee (f := 23) rfl ?_); refine goesC_ (some 76) Try.func23 #[.agg #[.slice Ao40 x640000_2.length co40]] ?_; (with_reducible refine (spec_PolicyText.calls k2 _ _ x640000_2 t640 _ ?side1 ?side2 A35.out).mono ?_); (case side1 => repeat (first | exact (Kd.R_reads' HO_640000.out).2.2 | (with_reducible refine Kd.C_alloc ?_ _) | (with_reducible refine Kd.C_drewN ?_ _) | (with_reducible refine Kd.C_drew ?_))); (case side2 => exact (Kd.R_reads' HO_640000.out).2.1); rintro e w41 ⟨rfl, hb⟩; refine ⟨_, rfl, ?_⟩; replace HO_640000 := Aside0.mk (Kd.R_below (by (with_reducible repeat (first | apply Kd.R_alloc | apply Kd.R_drewN | apply Kd.R_drew)); exact HO_640000.out) hb); replace BK635 := bkb_ BK635 hb; replace BK639 := bkb_ BK639 hb; replace HB := hbs_ hb; clear hb; have hcz42 := blk_cell BK635.out; have hfz42 := blk_frozen BK635.out))
         refine bodyPost_ret (results_ct rfl _ _ gb635 39 #[.slice none 0 0] (0, 0) _ rfl (bk_ BK635) Try.underlying39 rfl (by kernel_rfl)) rfl ?_
         exact ⟨_, eq_, by first | exact Kd.R_nil _ _ _ _ _ | exact Kd.N_nil _ _ _ _ _ | exact Kd.V_nil _ _ _ _ _ | exact Kd.Q_nil _ _ _ _ _ | exact Kd.S_nil _ _ _ _ _, bl_⟩
        ·rw [if_neg c37] at H
         have c37b0 : (a0.toList == ([] : List UInt8)) = false := beq_eq_false_iff_ne.mpr c37
         have c37b1 : (a0.toList != ([] : List UInt8)) = true := bne_iff_ne.mpr c37
         simp only [Option.some.injEq, Prod.mk.injEq] at H
         obtain ⟨rfl, rfl⟩ := H
         have hnb43 := NB639_635.out
         have hnc43 := NB635_639.out
         have hcz44 := blk_cell BK639.out
         have hfz44 := blk_frozen BK639.out
         obtain ⟨Ao45, co45, eo45⟩ := Kd.R_slice HO_640000.out
         subst eo45
         go_wp2_with (first | ((with_reducible refine gate_callee (f := 23) rfl ?_); refine goesC_ (some 76) Try.func23 #[.agg #[.slice Ao45 x640000_2.length co45]] ?_; (with_reducible refine (spec_PolicyText.calls k2 _ _ x640000_2 t640 _ ?side1 ?side2 A35.out).mono ?_); (case side1 => repeat (first | exact (Kd.R_reads' HO_640000.out).2.2 | (with_reducible refine Kd.C_alloc ?_ _) | (with_reducible refine Kd.C_drewN ?_ _) | (with_reducible refine Kd.C_drew ?_))); (case side2 => exact (Kd.R_reads' HO_640000.out).2.1); rintro e w46 ⟨rfl, hb⟩; refine ⟨_, rfl, ?_⟩; replace HO_640000 := Aside0.mk (Kd.R_below (by (with_reducible repeat (first | apply Kd.R_alloc | apply Kd.R_drewN | apply Kd.R_drew)); exact HO_640000.out) hb); replace BK635 := bkb_ BK635 hb; replace BK639 := bkb_ BK639 hb; replace HB := hbs_ hb; clear hb; have hcz47 := blk_cell BK639.out; have hfz47 := blk_frozen BK639.out; have hcz48 := blk_cell BK635.out; have hfz48 := blk_frozen BK635.out))
         refine bodyPost_ret (results_ct rfl _ _ gb635 39 #[.slice Ao45 x640000_2.length co45] (0, 0) _ rfl (bk_ BK635) Try.underlying39 rfl (by kernel_rfl)) rfl ?_
         exact ⟨_, eq_, by (with_reducible repeat (first | apply Kd.R_alloc | apply Kd.R_drewN | apply Kd.R_drew)); exact Kd.R_mono (Kd.R_far (p := ⟨gb635, 0, none⟩) (Kd.R_types HO_640000.out BK635.out (by decide)) (fun _ hk => hk.2) (.slice Ao45 x640000_2.length co45)) (fun _ hk => trivial), bl_⟩
       ·rw [if_neg c36] at H
        have c36b0 : (t640.toList == a0.toList) = false := beq_eq_false_iff_ne.mpr c36
        have c36b1 : (t640.toList != a0.toList) = true := bne_iff_ne.mpr c36
        simp only [Option.some.injEq, Prod.mk.injEq] at H
        obtain ⟨rfl, rfl⟩ := H
        have hnb49 := NB639_635.out
        have hnc49 := NB635_639.out
        have hcz50 := blk_cell BK639.out
        have hfz50 := blk_frozen BK639.out
        obtain ⟨Ao51, co51, eo51⟩ := Kd.R_slice HO_640000.out
        subst eo51
        go_wp2_with (first | ((with_reducible refine gate_callee (f := 23) rfl ?_); refine goesC_ (some 76) Try.func23 #[.agg #[.slice Ao51 x640000_2.length co51]] ?_; (with_reducible refine (spec_PolicyText.calls k2 _ _ x640000_2 t640 _ ?side1 ?side2 A35.out).mono ?_); (case side1 => repeat (first | exact (Kd.R_reads' HO_640000.out).2.2 | (with_reducible refine Kd.C_alloc ?_ _) | (with_reducible refine Kd.C_drewN ?_ _) | (with_reducible refine Kd.C_drew ?_))); (case side2 => exact (Kd.R_reads' HO_640000.out).2.1); rintro e w52 ⟨rfl, hb⟩; refine ⟨_, rfl, ?_⟩; replace HO_640000 := Aside0.mk (Kd.R_below (by (with_reducible repeat (first | apply Kd.R_alloc | apply Kd.R_drewN | apply Kd.R_drew)); exact HO_640000.out) hb); replace BK635 := bkb_ BK635 hb; replace BK639 := bkb_ BK639 hb; replace HB := hbs_ hb; clear hb; have hcz53 := blk_cell BK635.out; have hfz53 := blk_frozen BK635.out))
        refine bodyPost_ret (results_ct rfl _ _ gb635 39 #[.slice none 0 0] (0, 0) _ rfl (bk_ BK635) Try.underlying39 rfl (by kernel_rfl)) rfl ?_
        exact ⟨_, eq_, by first | exact Kd.R_nil _ _ _ _ _ | exact Kd.N_nil _ _ _ _ _ | exact Kd.V_nil _ _ _ _ _ | exact Kd.Q_nil _ _ _ _ _ | exact Kd.S_nil _ _ _ _ _, bl_⟩
end Go.Proofs.Ytcgnegnljffkmaa.PA
