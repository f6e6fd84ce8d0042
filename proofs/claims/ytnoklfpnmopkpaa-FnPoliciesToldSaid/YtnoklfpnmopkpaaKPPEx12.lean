import Derived.Test.YtnoklfpnmopkpaaKPPEx2
import Derived.Test.YtnoklfpnmopkpaaKPPEx10
-- printed by wip/tools
namespace Go.Proofs.Ytnoklfpnmopkpaa.PE
open Go.RowKit Go.Proofs.YtnoklfpnmopkpaaW.PrintWords Go.Proofs.YtnoklfpnmopkpaaW.PrintLast Go.Proofs.YtnoklfpnmopkpaaW.PrintMore
attribute [local go_sem] max2_int min2_int max_two min_two max_three min_three max_four min_four
set_option linter.unusedVariables false
set_option linter.unusedSimpArgs false
attribute [local go_sem high] eqA63
mutual
def spec_ReadVar.l0 : Nat → ByteArray → Int → Int → Int → Int → Option (Int × Int × Bool)
 | 0, _, _, _, _, _ => none
 | k + 1, x0, x1, x7, x8, x9 => if x9 < (x0.size : Int) then (spec_ReadVar.j1 k x0 x1 x7 x8 x9 (decide (x9 < (wrap64 (x1 + 5))))) else (spec_ReadVar.j1 k x0 x1 x7 x8 x9 false)
def spec_ReadVar.j1 : Nat → ByteArray → Int → Int → Int → Int → Bool → Option (Int × Int × Bool)
 | 0, _, _, _, _, _, _ => none
 | k + 1, x0, x1, x7, x8, x9, x25 => if x25 = true then (if 0 ≤ x9 then (if x9 < (x0.size : Int) then (if (bt x0 x9) < 128 then (if (wrap64 (x7 + (wrap64 ((Int.tmod (wrap64 (bt x0 x9)) 128) * x8)))) > 1000000000 then (some (0, 0, false)) else ((spec_l01Var.f k (wrap64 (x7 + (wrap64 ((Int.tmod (wrap64 (bt x0 x9)) 128) * x8))))).bind fun t467 => (if 0 ≤ x1 then (if x1 ≤ (wrap64 (x9 + 1)) then (if (wrap64 (x9 + 1)) ≤ (x0.size : Int) then (if t467.toList = (x0.extract (x1 : Int).toNat ((wrap64 (x9 + 1)) : Int).toNat).toList then (some (wrap64 (x7 + (wrap64 ((Int.tmod (wrap64 (bt x0 x9)) 128) * x8))), wrap64 (x9 + 1), true)) else (some (0, 0, false))) else (none)) else (none)) else (none)))) else (spec_ReadVar.l0 k x0 x1 (wrap64 (x7 + (wrap64 ((Int.tmod (wrap64 (bt x0 x9)) 128) * x8)))) (wrap64 (x8 * 128)) (wrap64 (x9 + 1)))) else (none)) else (none)) else (some (0, 0, false))
end
def spec_ReadVar.f (k : Nat) (a0 : ByteArray) (a1 : Int) : Option (Int × Int × Bool) := (spec_l01In.f a1 0 (a0.size : Int)).bind fun t466 => (if t466 = true then (spec_ReadVar.l0 k a0 a1 0 1 a1) else (some (0, 0, false)))
def spec_ReadVar.T11 : Bool × List (List Nat × List Nat) := (true, [([], []), ([0], [0]), ([1], [1]), ([2], [2]), ([3, 2, 2], [2, 3]), ([2], [2]), ([2], [2]), ([2], [2]), ([7, 2], [2, 7]), ([5, 6, 8, 2], [2, 5, 6, 8]), ([4, 9, 2], [2, 4, 9]), ([2, 10], [2, 10])])
def spec_ReadVar.B11 : List Nat := [0, 1, 3, 7, 15, 7, 7, 7, 135, 487, 1023, 2047]
theorem spec_ReadVar.tab11 : rtab .any (opsOf Try.f33 11) = spec_ReadVar.T11 := by kernel_rfl
theorem spec_ReadVar.bits11 : waitsOk spec_ReadVar.T11.2 spec_ReadVar.B11 = true := by kernel_rfl
set_option maxHeartbeats 8000000 in
set_option maxRecDepth 100000 in
theorem spec_ReadVar.calls (k : Nat) (a0 : ByteArray) (a1 : Int) (r1 : Int) (r2 : Int) (r3 : Bool) (w : World) (h : spec_ReadVar.f k a0 a1 = some (r1, r2, r3)) :
  Calls Try.prog 33 #[.string a0, .int .i64 a1] w fun e w' => e = .returned (.tuple #[.int .i64 r1, .int .i64 r2, .bool r3]) ∧ Below w.heap.size w w' := by
 have HB := aa_ (Below.refl w.heap.size w)
 have H : ((spec_l01In.f a1 0 (a0.size : Int)).bind fun t466 => (if t466 = true then (spec_ReadVar.l0 k a0 a1 0 1 a1) else (some (0, 0, false)))) = some (r1, r2, r3) := h
 clear h
 obtain ⟨t466, A3, H⟩ := bindE_ H
 have HC4 := aa_ H
 clear H
 go_enter Try.func33, Try.ntmps33
 go_upto_if 14 with (first | ((with_reducible refine gC_ 40 rfl ?_); refine goesC_ (some 13) Try.func40 #[.int .i64 a1, .int .i64 0, .int .i64 (a0.size : Int)] ?_; (with_reducible refine (spec_l01In.calls a1 0 (a0.size : Int) t466 _ A3.out).mono ?_); rintro e w' ⟨rfl, ⟨nd, rfl⟩⟩; refine ⟨_, rfl, ?_⟩))
 (try simp only [Act.put, List.setIfInBounds_toArray, List.set_cons_zero, List.set_cons_succ])
 have H := HC4.out
 clear HC4
 by_cases c5 : t466 = true
 ·subst c5
  replace H := ite_t_ H
  have H' := aa_ H
  clear H
  go_wp2
  go_loopg [7, 8, 9] k (fun kq v7 v8 v9 w' => ∃ (x7_1 : Int) (x8_1 : Int) (x9_1 : Int), v7 = .int .i64 x7_1 ∧ v8 = .int .i64 x8_1 ∧ v9 = .int .i64 x9_1 ∧ Aside0 (spec_ReadVar.l0 kq a0 a1 x7_1 x8_1 x9_1 = some (r1, r2, r3)) ∧ Aside0 (kq ≤ k) ∧ Aside0 (Below w.heap.size w w'))
  case atStart => exact ⟨(0), (1), (a1), rf_, rf_, rf_, H', ⟨Nat.le_refl _⟩, ⟨bl_⟩⟩
  case round =>
   clear H'
   try clear p2
   try clear c3
   try clear c4
   try clear c5
   obtain ⟨x7_1, x8_1, x9_1, rfl, rfl, rfl, HA, HK1, HB⟩ := hrel
   cases gk with
   | zero => exact absurd HA.out (by simp [spec_ReadVar.l0])
   | succ k1 =>
    have H := HA.out
    clear HA
    simp only [spec_ReadVar.l0] at H
    have HC6 := aa_ H
    clear H
    go_upto_region 6 with (fail)
    go_cut [25] (fun v25 wc => ∃ (kq : Nat) (x25_5 : Bool), v25 = .bool x25_5 ∧ Aside0 (spec_ReadVar.j1 kq a0 a1 x7_1 x8_1 x9_1 x25_5 = some (r1, r2, r3)) ∧ Aside0 (kq ≤ k1) ∧ Aside0 (Below w.heap.size w wc))
    case first =>
     have H := HC6.out
     clear HC6
     by_cases c7 : x9_1 < (a0.size : Int)
     ·rw [if_pos c7] at H
      have c7b0 : decide (x9_1 < (a0.size : Int)) = true := decide_eq_true c7
      clear c7
      (first | rw [c7b0] | (simp only [i64_w, i32_w]; rw [c7b0]) | skip)
      have H' := aa_ H
      clear H
      go_wp2
      go_meet
      case rel => exact ⟨_, (decide (x9_1 < (wrap64 (a1 + 5)))), rf_, H', ⟨by have := HK1.out; first | omega | exact Nat.le_refl _⟩, ⟨bl_⟩⟩
     ·rw [if_neg c7] at H
      have c7b0 : decide (x9_1 < (a0.size : Int)) = false := decide_eq_false c7
      clear c7
      (first | rw [c7b0] | (simp only [i64_w, i32_w]; rw [c7b0]) | skip)
      have H' := aa_ H
      clear H
      go_wp2
      go_meet
      case rel => exact ⟨_, (false), rf_, H', ⟨by have := HK1.out; first | omega | exact Nat.le_refl _⟩, ⟨bl_⟩⟩
    case rest =>
     clear HC6
     try clear p2
     try clear c3
     try clear c4
     try clear c5
     try clear p6
     try clear c7
     try clear c7b0
     try clear p2
     obtain ⟨kq, x25_5, rfl, HA, HJ5, HB⟩ := hcut
     cases kq with
     | zero => exact absurd HA.out (by simp [spec_ReadVar.j1])
     | succ kj5 =>
      have H := HA.out
      clear HA
      simp only [spec_ReadVar.j1] at H
      by_cases c8 : x25_5 = true
      ·subst c8
       replace H := ite_t_ H
       obtain ⟨c9b0, H⟩ := ifd_ H
       obtain ⟨c10b0, H⟩ := ifd_ H
       by_cases c13 : (bt a0 x9_1) < 128
       ·rw [if_pos c13] at H
        have c13b0 : decide ((bt a0 x9_1) < 128) = true := decide_eq_true c13
        clear c13
        by_cases c14 : (wrap64 (x7_1 + (wrap64 ((Int.tmod (wrap64 (bt a0 x9_1)) 128) * x8_1)))) > 1000000000
        ·rw [if_pos c14] at H
         have c14b0 : decide (1000000000 < (wrap64 (x7_1 + (wrap64 ((Int.tmod (wrap64 (bt a0 x9_1)) 128) * x8_1))))) = true := decide_eq_true c14
         clear c14
         simp only [Option.some.injEq, Prod.mk.injEq] at H
         obtain ⟨rfl, rfl, rfl⟩ := H
         have p11 : 0 ≤ (x9_1 : Int) := od_
         have q11 : x9_1 < (a0.size : Int) := od_
         have hx11 := bt_at a0 x9_1
         replace p11 := eq_true p11
         replace q11 := eq_true q11
         have p12 : 0 ≤ (x9_1 : Int) := od_
         have q12 : x9_1 < (a0.size : Int) := od_
         have hx12 := bt_at a0 x9_1
         replace p12 := eq_true p12
         replace q12 := eq_true q12
         try go_wp2
         replace HB := aa_ (below_drew1 HB.out)
         refine start_ (n := 12) (S := fun w' => True) (ds := []) (ba_ 12 0) (by kernel_rfl) rfl rfl trivial (fun hHeld => ?_); refine with_tabW spec_ReadVar.tab11 spec_ReadVar.bits11 (fun HT_ HW_ => ?_)
         generalize wc.drew = w15 at HB hHeld ⊢
         refine pureZ_ (i := 0) (some 43) (ba_ 12 1) (ao_ HT_) ?_
         refine pureZ_ (i := 1) (some 44) (ba_ 12 3) (ao_ HT_) ?_
         refine pureZ_ (i := 2) (some 45) (ba_ 12 7) (ao_ HT_) ?_
         refine pure_ (i := 3) (N := some 46) (v := undef) (a' := ?_) (ba_ 12 15) rfl rfl (ao_ HT_) (fun _ _ _ h => h) (Or.inr ⟨by rfl, rfl⟩) ?_ ?_
         rotate_left
         ·simp only [Act.put, List.setIfInBounds_toArray, List.set_cons_zero, List.set_cons_succ, i64_w, i32_w]
          rfl
         refine pure_ (i := 4) (N := some 47) (v := undef) (a' := ?_) (ba_ 12 31) rfl rfl (ao_ HT_) (fun _ _ _ h => h) (Or.inr ⟨by rfl, rfl⟩) ?_ ?_
         rotate_left
         ·simp only [Act.put, List.setIfInBounds_toArray, List.set_cons_zero, List.set_cons_succ, i64_w, i32_w]
          rfl
         refine pure_ (i := 5) (N := some 48) (v := undef) (a' := ?_) (ba_ 12 63) rfl rfl (ao_ HT_) (fun _ _ _ h => h) (Or.inr ⟨by rfl, rfl⟩) ?_ ?_
         rotate_left
         ·simp only [Act.put, List.setIfInBounds_toArray, List.set_cons_zero, List.set_cons_succ, i64_w, i32_w]
          rfl
         refine pure_ (i := 6) (N := some 49) (v := undef) (a' := ?_) (ba_ 12 127) rfl rfl (ao_ HT_) (fun _ _ _ h => h) (Or.inr ⟨by rfl, rfl⟩) ?_ ?_
         rotate_left
         ·simp only [Act.put, List.setIfInBounds_toArray, List.set_cons_zero, List.set_cons_succ, i64_w, i32_w]
          rfl
         refine pure_ (i := 7) (N := some 50) (v := undef) (a' := ?_) (ba_ 12 255) rfl rfl (ao_ HT_) (fun _ _ _ h => h) (Or.inr ⟨by rfl, rfl⟩) ?_ ?_
         rotate_left
         ·simp only [Act.put, List.setIfInBounds_toArray, List.set_cons_zero, List.set_cons_succ, i64_w, i32_w]
          rfl
         refine pure_ (i := 8) (N := some 51) (v := undef) (a' := ?_) (ba_ 12 511) rfl rfl (ao_ HT_) (fun _ _ _ h => h) (Or.inr ⟨by rfl, rfl⟩) ?_ ?_
         rotate_left
         ·simp only [Act.put, List.setIfInBounds_toArray, List.set_cons_zero, List.set_cons_succ, i64_w, i32_w]
          rfl
         refine pure_ (i := 9) (N := some 52) (v := undef) (a' := ?_) (ba_ 12 1023) rfl rfl (ao_ HT_) (fun _ _ _ h => h) (Or.inr ⟨by rfl, rfl⟩) ?_ ?_
         rotate_left
         ·simp only [Act.put, List.setIfInBounds_toArray, List.set_cons_zero, List.set_cons_succ, i64_w, i32_w]
          rfl
         refine pure_ (i := 10) (N := some 53) (v := undef) (a' := ?_) (ba_ 12 2047) rfl rfl (ao_ HT_) (fun _ _ _ h => h) (Or.inr ⟨by rfl, rfl⟩) ?_ ?_
         rotate_left
         ·simp only [Act.put, List.setIfInBounds_toArray, List.set_cons_zero, List.set_cons_succ, i64_w, i32_w]
          rfl
         refine pureZ_ (i := 11) (some 54) (ba_ 12 4095) (ao_ HT_) ?_
         refine done_ (done_of HT_.out (by kernel_rfl)) ?_
         try go_wp2
         go_ret3
         exact ⟨eq_, bl_⟩
        ·rw [if_neg c14] at H
         have c14b0 : decide (1000000000 < (wrap64 (x7_1 + (wrap64 ((Int.tmod (wrap64 (bt a0 x9_1)) 128) * x8_1))))) = false := decide_eq_false c14
         clear c14
         obtain ⟨t467, A16, H⟩ := bindE_ H
         obtain ⟨c17, H⟩ := ifn_ H
         have c17b0 := eq_true c17
         have c17b1 : decide (0 ≤ a1) = true := decide_eq_true c17
         clear c17
         obtain ⟨c18, H⟩ := ifn_ H
         have c18b0 := eq_true c18
         have c18b1 : decide (a1 ≤ (wrap64 (x9_1 + 1))) = true := decide_eq_true c18
         obtain ⟨c19, H⟩ := ifn_ H
         have c19b0 := eq_true c19
         have c19b1 : decide ((wrap64 (x9_1 + 1)) ≤ (a0.size : Int)) = true := decide_eq_true c19
         by_cases c20 : t467.toList = (a0.extract (a1 : Int).toNat ((wrap64 (x9_1 + 1)) : Int).toNat).toList
         ·rw [if_pos c20] at H
          have c20b0 : (t467.toList == (a0.extract (a1 : Int).toNat ((wrap64 (x9_1 + 1)) : Int).toNat).toList) = true := beq_iff_eq.mpr c20
          have c20b1 : (t467.toList != (a0.extract (a1 : Int).toNat ((wrap64 (x9_1 + 1)) : Int).toNat).toList) = false := bne_eq_false_iff_eq.mpr c20
          clear c20
          simp only [Option.some.injEq, Prod.mk.injEq] at H
          obtain ⟨rfl, rfl, rfl⟩ := H
          have p11 : 0 ≤ (x9_1 : Int) := od_
          have q11 : x9_1 < (a0.size : Int) := od_
          have hx11 := bt_at a0 x9_1
          replace p11 := eq_true p11
          replace q11 := eq_true q11
          have p12 : 0 ≤ (x9_1 : Int) := od_
          have q12 : x9_1 < (a0.size : Int) := od_
          have hx12 := bt_at a0 x9_1
          replace p12 := eq_true p12
          replace q12 := eq_true q12
          try go_wp2
          replace HB := aa_ (below_drew1 HB.out)
          refine start_ (n := 12) (S := fun w' => True) (ds := []) (ba_ 12 0) (by kernel_rfl) rfl rfl trivial (fun hHeld => ?_); refine with_tabW spec_ReadVar.tab11 spec_ReadVar.bits11 (fun HT_ HW_ => ?_)
          generalize wc.drew = w21 at HB hHeld ⊢
          refine pureZ_ (i := 0) (some 43) (ba_ 12 1) (ao_ HT_) ?_
          refine pureZ_ (i := 1) (some 44) (ba_ 12 3) (ao_ HT_) ?_
          refine pureZ_ (i := 2) (some 45) (ba_ 12 7) (ao_ HT_) ?_
          refine pureZ_ (i := 3) (some 46) (ba_ 12 15) (ao_ HT_) ?_
          refine pureZ_ (i := 5) (some 48) (ba_ 12 47) (ao_ HT_) ?_
          refine pureZ_ (i := 6) (some 49) (ba_ 12 111) (ao_ HT_) ?_
          refine pureZ_ (i := 7) (some 50) (ba_ 12 239) (ao_ HT_) ?_
          refine pureZ_ (i := 8) (some 51) (ba_ 12 495) (ao_ HT_) ?_
          refine pureZ_ (i := 9) (some 52) (ba_ 12 1007) (ao_ HT_) ?_
          refine one_ (i := 4) (N := some 47) (ba_ 12 1023) rfl rfl (one_of HT_.out (by kernel_rfl)) (by decide) (fun K hK => ?_)
          refine goes_ Try.func47 (by kernel_rfl) rfl #[.int .i64 (wrap64 (x7_1 + (wrap64 ((Int.tmod (wrap64 (bt a0 x9_1)) 128) * x8_1))))] (by rfl) rfl rfl (by (try simp only [List.map_toArray, List.map_cons, List.map_nil]); first | done | rfl | (simp only [List.length_drop, List.length_take]; rfl)) ?_
          with_reducible refine (spec_l01Var.calls kj5 (wrap64 (x7_1 + (wrap64 ((Int.tmod (wrap64 (bt a0 x9_1)) 128) * x8_1)))) t467 _ A16.out).mono ?_
          rintro e w22 ⟨rfl, hb⟩
          refine ⟨_, rfl, ?_⟩
          replace HB := hbs_ hb
          (try clear hb)
          (try clear hb2)
          (try clear hk)
          (try clear hi)
          refine hK.out _ _ trivial (fun hHeld => ?_)
          clear hK K
          refine norm_ (a' := ?_) ?_ ?_
          rotate_left
          ·show Act.put _ (some 47) _ = _
           simp only [Act.put, List.setIfInBounds_toArray, List.set_cons_zero, List.set_cons_succ, i64_w, i32_w]
           rfl
          refine pureZ_ (i := 10) (some 53) (ba_ 12 2047) (ao_ HT_) ?_
          refine pureZ_ (i := 11) (some 54) (ba_ 12 4095) (ao_ HT_) ?_
          refine done_ (done_of HT_.out (by kernel_rfl)) ?_
          try go_wp2
          go_ret3
          exact ⟨eq_, bl_⟩
         ·rw [if_neg c20] at H
          have c20b0 : (t467.toList == (a0.extract (a1 : Int).toNat ((wrap64 (x9_1 + 1)) : Int).toNat).toList) = false := beq_eq_false_iff_ne.mpr c20
          have c20b1 : (t467.toList != (a0.extract (a1 : Int).toNat ((wrap64 (x9_1 + 1)) : Int).toNat).toList) = true := bne_iff_ne.mpr c20
          simp only [Option.some.injEq, Prod.mk.injEq] at H
          obtain ⟨rfl, rfl, rfl⟩ := H
          have p11 : 0 ≤ (x9_1 : Int) := od_
          have q11 : x9_1 < (a0.size : Int) := od_
          have hx11 := bt_at a0 x9_1
          replace p11 := eq_true p11
          replace q11 := eq_true q11
          have p12 : 0 ≤ (x9_1 : Int) := od_
          have q12 : x9_1 < (a0.size : Int) := od_
          have hx12 := bt_at a0 x9_1
          replace p12 := eq_true p12
          replace q12 := eq_true q12
          try go_wp2
          replace HB := aa_ (below_drew1 HB.out)
          refine start_ (n := 12) (S := fun w' => True) (ds := []) (ba_ 12 0) (by kernel_rfl) rfl rfl trivial (fun hHeld => ?_); refine with_tabW spec_ReadVar.tab11 spec_ReadVar.bits11 (fun HT_ HW_ => ?_)
          generalize wc.drew = w23 at HB hHeld ⊢
          refine pureZ_ (i := 0) (some 43) (ba_ 12 1) (ao_ HT_) ?_
          refine pureZ_ (i := 1) (some 44) (ba_ 12 3) (ao_ HT_) ?_
          refine pureZ_ (i := 2) (some 45) (ba_ 12 7) (ao_ HT_) ?_
          refine pureZ_ (i := 3) (some 46) (ba_ 12 15) (ao_ HT_) ?_
          refine pureZ_ (i := 5) (some 48) (ba_ 12 47) (ao_ HT_) ?_
          refine pureZ_ (i := 6) (some 49) (ba_ 12 111) (ao_ HT_) ?_
          refine pureZ_ (i := 7) (some 50) (ba_ 12 239) (ao_ HT_) ?_
          refine pureZ_ (i := 8) (some 51) (ba_ 12 495) (ao_ HT_) ?_
          refine pureZ_ (i := 9) (some 52) (ba_ 12 1007) (ao_ HT_) ?_
          refine one_ (i := 4) (N := some 47) (ba_ 12 1023) rfl rfl (one_of HT_.out (by kernel_rfl)) (by decide) (fun K hK => ?_)
          refine goes_ Try.func47 (by kernel_rfl) rfl #[.int .i64 (wrap64 (x7_1 + (wrap64 ((Int.tmod (wrap64 (bt a0 x9_1)) 128) * x8_1))))] (by rfl) rfl rfl (by (try simp only [List.map_toArray, List.map_cons, List.map_nil]); first | done | rfl | (simp only [List.length_drop, List.length_take]; rfl)) ?_
          with_reducible refine (spec_l01Var.calls kj5 (wrap64 (x7_1 + (wrap64 ((Int.tmod (wrap64 (bt a0 x9_1)) 128) * x8_1)))) t467 _ A16.out).mono ?_
          rintro e w24 ⟨rfl, hb⟩
          refine ⟨_, rfl, ?_⟩
          replace HB := hbs_ hb
          (try clear hb)
          (try clear hb2)
          (try clear hk)
          (try clear hi)
          refine hK.out _ _ trivial (fun hHeld => ?_)
          clear hK K
          refine norm_ (a' := ?_) ?_ ?_
          rotate_left
          ·show Act.put _ (some 47) _ = _
           simp only [Act.put, List.setIfInBounds_toArray, List.set_cons_zero, List.set_cons_succ, i64_w, i32_w]
           rfl
          refine pureZ_ (i := 10) (some 53) (ba_ 12 2047) (ao_ HT_) ?_
          refine pureZ_ (i := 11) (some 54) (ba_ 12 4095) (ao_ HT_) ?_
          refine done_ (done_of HT_.out (by kernel_rfl)) ?_
          try go_wp2
          go_ret3
          exact ⟨eq_, bl_⟩
       ·rw [if_neg c13] at H
        have c13b0 : decide ((bt a0 x9_1) < 128) = false := decide_eq_false c13
        clear c13
        have H' := aa_ H
        clear H
        have p11 : 0 ≤ (x9_1 : Int) := od_
        have q11 : x9_1 < (a0.size : Int) := od_
        have hx11 := bt_at a0 x9_1
        replace p11 := eq_true p11
        replace q11 := eq_true q11
        have p12 : 0 ≤ (x9_1 : Int) := od_
        have q12 : x9_1 < (a0.size : Int) := od_
        have hx12 := bt_at a0 x9_1
        replace p12 := eq_true p12
        replace q12 := eq_true q12
        go_wp2
        go_roundg kj5
        case measure => have := HK1.out; have := HJ5.out; omega
        case rel => exact ⟨(wrap64 (x7_1 + (wrap64 ((Int.tmod (wrap64 (bt a0 x9_1)) 128) * x8_1)))), (wrap64 (x8_1 * 128)), (wrap64 (x9_1 + 1)), rf_, rf_, rf_, H', ⟨by have := HK1.out; have := HJ5.out; omega⟩, ⟨bl_⟩⟩
      ·replace c8 := Bool.eq_false_iff.mpr c8
       subst c8
       replace H := ite_f_ H
       simp only [Option.some.injEq, Prod.mk.injEq] at H
       obtain ⟨rfl, rfl, rfl⟩ := H
       go_wp2
       go_ret3
       exact ⟨eq_, bl_⟩
 ·replace c5 := Bool.eq_false_iff.mpr c5
  subst c5
  replace H := ite_f_ H
  simp only [Option.some.injEq, Prod.mk.injEq] at H
  obtain ⟨rfl, rfl, rfl⟩ := H
  go_wp2
  go_ret3
  exact ⟨eq_, bl_⟩
mutual
def spec_ReadPolicy.j0 : Nat → ByteArray → Int → Int → Bool → Option ((List (S57)) × Bool)
 | 0, _, _, _, _ => none
 | k + 1, x0, x4, x5, x25 => if x25 = true then (some (([] : List (S57)), false)) else (spec_ReadPolicy.l0 k x0 x4 x5 0 ([] : List (S57)))
def spec_ReadPolicy.l0 : Nat → ByteArray → Int → Int → Int → List (S57) → Option ((List (S57)) × Bool)
 | 0, _, _, _, _, _ => none
 | k + 1, x0, x4, x5, x8, x473000 => if x8 < x4 then (spec_ReadPolicy.l1 k x0 x4 x5 x8 (([] : List Int)) 0 x473000) else ((spec_PolicyText.f k x473000).bind fun t473 => (if t473.toList = x0.toList then (if x0.toList = ([] : List UInt8) then (some (([] : List (S57)), false)) else (some (x473000, true))) else (some (([] : List (S57)), false))))
def spec_ReadPolicy.l1 : Nat → ByteArray → Int → Int → Int → List Int → Int → List (S57) → Option ((List (S57)) × Bool)
 | 0, _, _, _, _, _, _, _ => none
 | k + 1, x0, x4, x5, x8, x9, x10, x473000 => if x10 < 5 then ((spec_ReadVar.f k x0 x5).bind fun bt477 => (if bt477.2.2 = true then (if x9.length < 17592186044416 then (spec_ReadPolicy.l1 k x0 x4 bt477.2.1 x8 (x9 ++ [bt477.1]) (wrap64 (x10 + 1)) x473000) else (none)) else (some (([] : List (S57)), false)))) else (if 0 < (x9.length : Int) then (if 1 < (x9.length : Int) then (if 2 < (x9.length : Int) then (if 3 < (x9.length : Int) then (if 4 < (x9.length : Int) then (if x473000.length < 3518437208883 then (spec_ReadPolicy.l0 k x0 x4 x5 (wrap64 (x8 + 1)) (x473000 ++ [(⟨rd x9 0, (⟨rd x9 1, rd x9 2⟩ : S55), rd x9 3, rd x9 4⟩ : S57)])) else (none)) else (none)) else (none)) else (none)) else (none)) else (none))
end
def spec_ReadPolicy.f (k : Nat) (a0 : ByteArray) : Option ((List (S57)) × Bool) := (spec_ReadVar.f k a0 0).bind fun bt469 => (if bt469.2.2 = true then (spec_ReadPolicy.j0 k a0 bt469.1 bt469.2.1 (decide (bt469.1 > 40))) else (spec_ReadPolicy.j0 k a0 bt469.1 bt469.2.1 true))
def spec_ReadPolicy.T17 : Bool × List (List Nat × List Nat) := (true, [([], []), ([0], [0]), ([], []), ([2], [2]), ([3], [3]), ([], []), ([5], [5]), ([6], [6]), ([], []), ([8], [8]), ([9], [9]), ([7, 10], [7, 10]), ([], []), ([12], [12]), ([13], [13]), ([], []), ([15], [15]), ([16], [16]), ([4, 11, 14, 17], [4, 11, 14, 17]), ([18], [18]), ([1, 19], [1, 19]), ([0, 1, 2, 3, 4, 5, 6, 7, 8, 9, 10, 11, 12, 13, 14, 15, 16, 17, 18, 19, 20], []), ([21, 20, 20, 0, 1, 2, 3, 4, 5, 6, 7, 8, 9, 10, 11, 12, 13, 14, 15, 16, 17, 18, 19, 20], [20, 21])])
def spec_ReadPolicy.B17 : List Nat := [0, 1, 0, 4, 12, 0, 32, 96, 0, 256, 768, 2016, 0, 4096, 12288, 0, 32768, 98304, 262140, 524284, 1048575, 2097151, 4194303]
theorem spec_ReadPolicy.tab17 : rtab .any (opsOf Try.f11 17) = spec_ReadPolicy.T17 := by kernel_rfl
theorem spec_ReadPolicy.bits17 : waitsOk spec_ReadPolicy.T17.2 spec_ReadPolicy.B17 = true := by kernel_rfl
set_option maxHeartbeats 8000000 in
set_option maxRecDepth 100000 in
theorem spec_ReadPolicy.calls (k : Nat) (a0 : ByteArray) (r1 : List (S57)) (r2 : Bool) (w : World) (h : spec_ReadPolicy.f k a0 = some (r1, r2)) :
  Calls Try.prog 11 #[.string a0] w fun e w' => ∃ v0_ : Value, e = .returned (.tuple #[.agg #[v0_], .bool r2]) ∧ Kd.R k57 57 w' w.heap.size (fun _ => True) v0_ r1 ∧ Below w.heap.size w w' := by
 have hu27 := Try.underlying27
 have hu55 := Try.underlying55
 have hu57 := Try.underlying57
 have HB := aa_ (Below.refl w.heap.size w)
 have H : ((spec_ReadVar.f k a0 0).bind fun bt469 => (if bt469.2.2 = true then (spec_ReadPolicy.j0 k a0 bt469.1 bt469.2.1 (decide (bt469.1 > 40))) else (spec_ReadPolicy.j0 k a0 bt469.1 bt469.2.1 true))) = some (r1, r2) := h
 clear h
 obtain ⟨⟨t469, t470, t471⟩, A2, H⟩ := bindE_ H
 (try dsimp only at H)
 have HC3 := aa_ H
 clear H
 go_enter Try.func11, Try.ntmps11
 go_upto_region 2 with (first | ((with_reducible refine gD_ 2 rfl ?_); refine bx_ (N := 2) (cs := #[.slice none 0 0]) (t := 27) ?_; intro gb468 hg w4 hbox hb; have BK468 := aa_ (hbox); have GW468 := gs_ hg; have GE468 := gs_ hg; replace HB := hbs_ hb; clear hb hbox hg) | ((with_reducible refine gC_ 33 rfl ?_); refine goesC_ (some 16) Try.func33 #[.string a0, .int .i64 0] ?_; (with_reducible refine (spec_ReadVar.calls k a0 0 t469 t470 t471 _ A2.out).mono ?_); rintro e w5 ⟨rfl, hb⟩; refine ⟨_, rfl, ?_⟩; replace BK468 := bkb_ BK468 hb; replace HB := hbs_ hb; clear hb))
 (try simp only [Act.put, List.setIfInBounds_toArray, List.set_cons_zero, List.set_cons_succ])
 go_cut [25] (fun v25 wc => ∃ (kq : Nat) (x25_2 : Bool), v25 = .bool x25_2 ∧ Aside0 (spec_ReadPolicy.j0 kq a0 t469 t470 x25_2 = some (r1, r2)) ∧ Aside0 (kq ≤ k) ∧ Aside0 (wc.heap[gb468]? = some (.cells #[(.slice none 0 0)] 27 (0, 0))) ∧ Aside0 (Below w.heap.size w wc))
 case first =>
  have H := HC3.out
  clear HC3
  by_cases c6 : t471 = true
  ·subst c6
   replace H := ite_t_ H
   have H' := aa_ H
   clear H
   go_wp2
   go_meet
   case rel => exact ⟨_, (decide (t469 > 40)), rf_, H', ⟨by first | omega | exact Nat.le_refl _⟩, ⟨bk_ BK468⟩, ⟨bl_⟩⟩
  ·replace c6 := Bool.eq_false_iff.mpr c6
   subst c6
   replace H := ite_f_ H
   have H' := aa_ H
   clear H
   go_wp2
   go_meet
   case rel => exact ⟨_, (true), rf_, H', ⟨by first | omega | exact Nat.le_refl _⟩, ⟨bk_ BK468⟩, ⟨bl_⟩⟩
 case rest =>
  clear HC3
  try clear c1
  try clear p2
  try clear c3
  try clear c6
  obtain ⟨kq, x25_2, rfl, HA, HJ2, BK468, HB⟩ := hcut
  cases kq with
  | zero => exact absurd HA.out (by simp [spec_ReadPolicy.j0])
  | succ kj2 =>
   have H := HA.out
   clear HA
   simp only [spec_ReadPolicy.j0] at H
   by_cases c7 : x25_2 = true
   ·subst c7
    replace H := ite_t_ H
    simp only [Option.some.injEq, Prod.mk.injEq] at H
    obtain ⟨rfl, rfl⟩ := H
    have hcz8 := blk_cell BK468.out
    have hfz8 := blk_frozen BK468.out
    go_wp2
    refine bodyPost_ret (results_ct rfl _ _ gb468 27 #[.slice none 0 0] (0, 0) _ rfl (bk_ BK468) Try.underlying27 rfl (by kernel_rfl)) rfl ?_
    exact ⟨_, eq_, by first | exact Kd.R_nil _ _ _ _ _ | exact Kd.N_nil _ _ _ _ _ | exact Kd.V_nil _ _ _ _ _ | exact Kd.Q_nil _ _ _ _ _ | exact Kd.S_nil _ _ _ _ _, bl_⟩
   ·replace c7 := Bool.eq_false_iff.mpr c7
    subst c7
    replace H := ite_f_ H
    have H' := aa_ H
    clear H
    go_wp2_with (first | ((with_reducible refine gD_ 7 rfl ?_); refine bx_ (N := 7) (cs := #[.slice none 0 0]) (t := 27) ?_; intro gb472 hg w9 hbox hb; have BK472 := aa_ (hbox); have GW472 := gs_ hg; have GE472 := gs_ hg; replace HB := hbs_ hb; have NB468_472 := nl_ hg BK468; have NB472_468 := nr_ hg BK468; replace BK468 := bkb_ BK468 hb; clear hb hbox hg; have hnb10 := NB472_468.out; have hnc10 := NB468_472.out; obtain ⟨hcz11, hfz11⟩ := bcf_ BK472))
    go_loopg [5, 8] kj2 (fun kq v5 v8 w' => ∃ (x5_2 : Int) (x8_2 : Int) (x473000_2 : List (S57)) (u473000 : Value), v5 = .int .i64 x5_2 ∧ v8 = .int .i64 x8_2 ∧ Aside0 (spec_ReadPolicy.l0 kq a0 t469 x5_2 x8_2 x473000_2 = some (r1, r2)) ∧ Aside0 (kq ≤ kj2) ∧ Aside0 (Kd.R k57 57 w' w.heap.size (fun _ => True) u473000 x473000_2) ∧ Aside0 (w'.heap[gb468]? = some (.cells #[(.slice none 0 0)] 27 (0, 0))) ∧ Aside0 (w'.heap[gb472]? = some (.cells #[u473000] 27 (0, 0))) ∧ Aside0 (Below w.heap.size w w'))
    case atStart => exact ⟨(t470), (0), (([] : List (S57))), (.slice none 0 0), rf_, rf_, H', ⟨Nat.le_refl _⟩, ⟨by first | exact Kd.R_nil _ _ _ _ _ | exact Kd.N_nil _ _ _ _ _ | exact Kd.V_nil _ _ _ _ _ | exact Kd.Q_nil _ _ _ _ _ | exact Kd.S_nil _ _ _ _ _⟩, ⟨bk_ BK468⟩, ⟨bk_ BK472⟩, ⟨bl_⟩⟩
    case round =>
     clear H'
     try clear c1
     try clear p2
     try clear c3
     try clear c6
     try clear c7
     try clear c10
     try clear c11
     try clear hcz11
     try clear hcz8
     try clear hfz11
     try clear hfz8
     try clear p2
     obtain ⟨x5_2, x8_2, x473000_2, u473000, rfl, rfl, HA, HK2, HO_473000, BK468, BK472, HB⟩ := hrel
     cases gk with
     | zero => exact absurd HA.out (by simp [spec_ReadPolicy.l0])
     | succ k2 =>
      have H := HA.out
      clear HA
      simp only [spec_ReadPolicy.l0] at H
      by_cases c12 : x8_2 < t469
      ·rw [if_pos c12] at H
       have c12b0 : decide (x8_2 < t469) = true := decide_eq_true c12
       clear c12
       obtain ⟨y474, hy474⟩ : ∃ y_ : List Int, y_ = (([] : List Int)) := ⟨_, rfl⟩
       replace H : (spec_ReadPolicy.l1 k2 a0 t469 x5_2 x8_2 y474 0 x473000_2) = some (r1, r2) := rh_ hy474 H
       have Ny474 := aa_ hy474
       clear hy474
       have H' := aa_ H
       clear H
       go_wp2_with (first | ((with_reducible refine gD_ 33 rfl ?_); refine Kd.R_lit (Kd.int .i64) _ 3 ?hg (N := 33) ?hd (xs := ([] : List Int)) (inner := []) (ok := fun _ => True) (okp := fun _ => True) ?hr ?hp (fun _ hk => hk) trivial (Below.refl _ _) (Nat.le_refl _) (by simp) ?_; (case hd => rfl); (case hg => rfl); (case hr => first | (go_simp; done) | (go_simp; rfl)); (case hp => exact (Reps.none _ _)); intro v475 w13 ho14 hb hg_ hnew_; clear hg_ hnew_; (first | rw [← Ny474.out] at ho14 | (simp only [Int.reduceToNat] at ho14; rw [← Ny474.out] at ho14)); replace HO_473000 := hob_ HO_473000 hb; have HO476 := aa_ (Kd.R_lower ho14 bls_); replace BK468 := bkb_ BK468 hb; replace BK472 := bkb_ BK472 hb; replace HB := hbs_ hb; clear hb ho14))
       go_loopg [5, 9, 10] k2 (fun kq v5 v9 v10 w' => ∃ (x5_3 : Int) (x9_3 : List Int) (x10_3 : Int), v5 = .int .i64 x5_3 ∧ v10 = .int .i64 x10_3 ∧ Aside0 (spec_ReadPolicy.l1 kq a0 t469 x5_3 x8_2 x9_3 x10_3 x473000_2 = some (r1, r2)) ∧ Aside0 (kq ≤ k2) ∧ Aside0 (Kd.R (Kd.int .i64) 3 w' w.heap.size (fun _ => True) v9 x9_3) ∧ Aside0 (Kd.R k57 57 w' w.heap.size (fun _ => True) u473000 x473000_2) ∧ Aside0 (w'.heap[gb468]? = some (.cells #[(.slice none 0 0)] 27 (0, 0))) ∧ Aside0 (w'.heap[gb472]? = some (.cells #[u473000] 27 (0, 0))) ∧ Aside0 (Below w.heap.size w w'))
       case atStart => exact ⟨(x5_2), (y474), (0), rf_, rf_, H', ⟨Nat.le_refl _⟩, ⟨rr_ HO476⟩, ⟨rr_ HO_473000⟩, ⟨bk_ BK468⟩, ⟨bk_ BK472⟩, ⟨bl_⟩⟩
       case round =>
        clear H'
        try clear c1
        try clear p2
        try clear c3
        try clear c6
        try clear c7
        try clear c10
        try clear c11
        try clear c12
        try clear c12b0
        try clear hcz11
        try clear hcz8
        try clear hfz11
        try clear hfz8
        try clear p2
        obtain ⟨x5_3, x9_3, x10_3, rfl, rfl, HA, HK3, HO_9, HO_473000, BK468, BK472, HB⟩ := hrel
        cases gk with
        | zero => exact absurd HA.out (by simp [spec_ReadPolicy.l1])
        | succ k3 =>
         have H := HA.out
         clear HA
         simp only [spec_ReadPolicy.l1] at H
         by_cases c15 : x10_3 < 5
         ·rw [if_pos c15] at H
          have c15b0 : decide (x10_3 < 5) = true := decide_eq_true c15
          clear c15
          obtain ⟨⟨t477, t478, t479⟩, A16, H⟩ := bindE_ H
          (try dsimp only at H)
          have HC17 := aa_ H
          clear H
          go_upto_if 46 with (first | ((with_reducible refine gC_ 33 rfl ?_); refine goesC_ (some 41) Try.func33 #[.string a0, .int .i64 x5_3] ?_; (with_reducible refine (spec_ReadVar.calls k3 a0 x5_3 t477 t478 t479 _ A16.out).mono ?_); rintro e w18 ⟨rfl, hb⟩; refine ⟨_, rfl, ?_⟩; replace HO_9 := hob_ HO_9 hb; replace HO_473000 := hob_ HO_473000 hb; replace BK468 := bkb_ BK468 hb; replace BK472 := bkb_ BK472 hb; replace HB := hbs_ hb; clear hb))
          (try simp only [Act.put, List.setIfInBounds_toArray, List.set_cons_zero, List.set_cons_succ])
          have H := HC17.out
          clear HC17
          by_cases c19 : t479 = true
          ·subst c19
           replace H := ite_t_ H
           obtain ⟨c20, H⟩ := ifn_ H
           have LMc20 := aa_ c20
           clear c20
           obtain ⟨y480, hy480⟩ : ∃ y_ : List Int, y_ = (x9_3 ++ [t477]) := ⟨_, rfl⟩
           replace H : (spec_ReadPolicy.l1 k3 a0 t469 t478 x8_2 y480 (wrap64 (x10_3 + 1)) x473000_2) = some (r1, r2) := rh_ hy480 H
           have Ny480 := aa_ hy480
           clear hy480
           have H' := aa_ H
           clear H
           go_wp2_with (first | ((with_reducible refine gate_builtin (b := .append) (xs := #[.tmp 48, .tmp 50]) rfl ?_); at_builtin; refine Kd.R_append (Kd.int .i64) (w0 := w) w.heap.size rfl (.tmp 48) (.tmp 50) 51 3 (.int .i64 0) 8 rfl Try.underlying51 info3 rfl (by decide) (by omega) u9 x9_3 t477 [.int .i64 t477] (fun _ => True) (fun _ => False) rfl rfl ?aP (fun _ hk => hk.elim) ?aF ?aO ?aB ?aS ?aL ?_; (case aP => exact rfl); (case aB => exact bl_); (case aF => exact (fun _ _ => trivial)); (case aO => exact (rr_ HO_9)); (case aS => exact bls_); (case aL => have := LMc20.out; omega); intro v481 w21 ho hb hg hat; rw [← Ny480.out] at ho; replace HO_473000 := aa_ (Kd.R_over' (rr_ HO_473000) (Kd.R_typed (rr_ HO_9)) (by decide) hg); replace BK468 := aa_ (blk_grown (g := gb468) (o := .cells #[.slice none 0 0] 27 (0, 0)) (bk_ BK468) hg (Kd.R_ne HO_9.out BK468.out (by decide))); replace BK472 := aa_ (blk_grown (g := gb472) (o := .cells #[u473000] 27 (0, 0)) (bk_ BK472) hg (Kd.R_ne HO_9.out BK472.out (by decide))); replace HB := aa_ (hb); have HO482 := aa_ (ho); clear HO_9; clear ho hb hg hat))
           go_roundg k3
           case measure => have := HJ2.out; have := HK2.out; have := HK3.out; omega
           case rel => exact ⟨(t478), (y480), (wrap64 (x10_3 + 1)), rf_, rf_, H', ⟨by have := HJ2.out; have := HK2.out; have := HK3.out; omega⟩, ⟨rr_ HO482⟩, ⟨rr_ HO_473000⟩, ⟨bk_ BK468⟩, ⟨bk_ BK472⟩, ⟨bl_⟩⟩
          ·replace c19 := Bool.eq_false_iff.mpr c19
           subst c19
           replace H := ite_f_ H
           simp only [Option.some.injEq, Prod.mk.injEq] at H
           obtain ⟨rfl, rfl⟩ := H
           have hnb22 := NB468_472.out
           have hnc22 := NB472_468.out
           have hcz23 := blk_cell BK468.out
           have hfz23 := blk_frozen BK468.out
           go_wp2
           refine bodyPost_ret (results_ct rfl _ _ gb468 27 #[.slice none 0 0] (0, 0) _ rfl (bk_ BK468) Try.underlying27 rfl (by kernel_rfl)) rfl ?_
           exact ⟨_, eq_, by first | exact Kd.R_nil _ _ _ _ _ | exact Kd.N_nil _ _ _ _ _ | exact Kd.V_nil _ _ _ _ _ | exact Kd.Q_nil _ _ _ _ _ | exact Kd.S_nil _ _ _ _ _, bl_⟩
         ·rw [if_neg c15] at H
          have c15b0 : decide (x10_3 < 5) = false := decide_eq_false c15
          clear c15
          obtain ⟨c24, H⟩ := ifn_ H
          have c24b0 : decide (0 < (x9_3.length : Int)) = true := decide_eq_true c24
          have c24b1 : decide (0 < x9_3.length) = true := decide_eq_true (by omega)
          clear c24
          obtain ⟨c25, H⟩ := ifn_ H
          have c25b0 : decide (1 < (x9_3.length : Int)) = true := decide_eq_true c25
          have c25b1 : decide (1 < x9_3.length) = true := decide_eq_true (by omega)
          clear c25
          obtain ⟨c26, H⟩ := ifn_ H
          have c26b0 : decide (2 < (x9_3.length : Int)) = true := decide_eq_true c26
          have c26b1 : decide (2 < x9_3.length) = true := decide_eq_true (by omega)
          clear c26
          obtain ⟨c27, H⟩ := ifn_ H
          have c27b0 : decide (3 < (x9_3.length : Int)) = true := decide_eq_true c27
          have c27b1 : decide (3 < x9_3.length) = true := decide_eq_true (by omega)
          clear c27
          obtain ⟨c28, H⟩ := ifn_ H
          have c28b0 : decide (4 < (x9_3.length : Int)) = true := decide_eq_true c28
          have c28b1 : decide (4 < x9_3.length) = true := decide_eq_true (by omega)
          clear c28
          obtain ⟨c29, H⟩ := ifn_ H
          have LMc29 := aa_ c29
          clear c29
          obtain ⟨y488, hy488⟩ : ∃ y_ : List (S57), y_ = (x473000_2 ++ [(⟨rd x9_3 0, (⟨rd x9_3 1, rd x9_3 2⟩ : S55), rd x9_3 3, rd x9_3 4⟩ : S57)]) := ⟨_, rfl⟩
          replace H : (spec_ReadPolicy.l0 k3 a0 t469 x5_3 (wrap64 (x8_2 + 1)) y488) = some (r1, r2) := rh_ hy488 H
          have Ny488 := aa_ hy488
          clear hy488
          have H' := aa_ H
          clear H
          try go_wp2
          replace HO_9 := aa_ (Kd.R_drew HO_9.out)
          replace HO_473000 := aa_ (Kd.R_drew HO_473000.out)
          replace BK468 := aa_ (blk_drew BK468.out)
          replace BK472 := aa_ (blk_drew BK472.out)
          replace HB := aa_ (below_drew1 HB.out)
          obtain ⟨Ao31, co31, eo31⟩ := Kd.R_slice HO_9.out
          (first | subst eo31 | (injection eo31 with f1_ f2_ f3_; have f4_ := f1_.symm; have f5_ := f3_.symm; clear f1_ f2_ f3_; subst f4_; subst f5_))
          have p483 : 0 ≤ (0 : Int) := (by omega)
          have q483 : 0 < (x9_3.length : Int) := od_
          obtain ⟨ad483, e483, hx483_0⟩ := Kd.at_int (Kd.R_reads' HO_9.out).2.2 0 p483 q483
          cases e483
          have qi483 : (0 < x9_3.length) = True := eq_true (by omega)
          (try rw [show ((0 : Int)).toNat = 0 from rfl] at hx483_0)
          (try rw [Addr.add_zero'] at hx483_0)
          replace p483 := eq_true p483
          replace q483 := eq_true q483
          have p484 : 0 ≤ (1 : Int) := (by omega)
          have q484 : 1 < (x9_3.length : Int) := od_
          obtain ⟨ad484, e484, hx484_0⟩ := Kd.at_int (Kd.R_reads' HO_9.out).2.2 1 p484 q484
          obtain rfl : ad483 = ad484 := (by injection e484)
          (try simp only [show (1 : Int).toNat = 1 from rfl, Nat.reduceMul, Nat.reduceEqDiff, Go.Addr.add, ↓reduceIte] at hx484_0)
          have qi484 : (1 < x9_3.length) = True := eq_true (by omega)
          (try rw [show ((1 : Int)).toNat = 1 from rfl] at hx484_0)
          replace p484 := eq_true p484
          replace q484 := eq_true q484
          have p485 : 0 ≤ (2 : Int) := (by omega)
          have q485 : 2 < (x9_3.length : Int) := od_
          obtain ⟨ad485, e485, hx485_0⟩ := Kd.at_int (Kd.R_reads' HO_9.out).2.2 2 p485 q485
          obtain rfl : ad483 = ad485 := (by injection e485)
          (try simp only [show (2 : Int).toNat = 2 from rfl, Nat.reduceMul, Nat.reduceEqDiff, Go.Addr.add, ↓reduceIte] at hx485_0)
          have qi485 : (2 < x9_3.length) = True := eq_true (by omega)
          (try rw [show ((2 : Int)).toNat = 2 from rfl] at hx485_0)
          replace p485 := eq_true p485
          replace q485 := eq_true q485
          have p486 : 0 ≤ (3 : Int) := (by omega)
          have q486 : 3 < (x9_3.length : Int) := od_
          obtain ⟨ad486, e486, hx486_0⟩ := Kd.at_int (Kd.R_reads' HO_9.out).2.2 3 p486 q486
          obtain rfl : ad483 = ad486 := (by injection e486)
          (try simp only [show (3 : Int).toNat = 3 from rfl, Nat.reduceMul, Nat.reduceEqDiff, Go.Addr.add, ↓reduceIte] at hx486_0)
          have qi486 : (3 < x9_3.length) = True := eq_true (by omega)
          (try rw [show ((3 : Int)).toNat = 3 from rfl] at hx486_0)
          replace p486 := eq_true p486
          replace q486 := eq_true q486
          have p487 : 0 ≤ (4 : Int) := (by omega)
          have q487 : 4 < (x9_3.length : Int) := od_
          obtain ⟨ad487, e487, hx487_0⟩ := Kd.at_int (Kd.R_reads' HO_9.out).2.2 4 p487 q487
          obtain rfl : ad483 = ad487 := (by injection e487)
          (try simp only [show (4 : Int).toNat = 4 from rfl, Nat.reduceMul, Nat.reduceEqDiff, Go.Addr.add, ↓reduceIte] at hx487_0)
          have qi487 : (4 < x9_3.length) = True := eq_true (by omega)
          (try rw [show ((4 : Int)).toNat = 4 from rfl] at hx487_0)
          replace p487 := eq_true p487
          replace q487 := eq_true q487
          refine start_ (n := 23) (S := fun w' => w'.cell? ⟨gb472, 0, none⟩ = some (u473000) ∧ w'.cell? ad483 = some (.int .i64 (rd x9_3 0)) ∧ w'.cell? ⟨ad483.block, ad483.off + 1, none⟩ = some (.int .i64 (rd x9_3 1)) ∧ w'.cell? ⟨ad483.block, ad483.off + 2, none⟩ = some (.int .i64 (rd x9_3 2)) ∧ w'.cell? ⟨ad483.block, ad483.off + 3, none⟩ = some (.int .i64 (rd x9_3 3)) ∧ w'.cell? ⟨ad483.block, ad483.off + 4, none⟩ = some (.int .i64 (rd x9_3 4))) (ds := [20, 22]) (ba_ 23 0) (by kernel_rfl) rfl rfl ⟨(blk_cell BK472.out 0).trans rfl, hx483_0, hx484_0, hx485_0, hx486_0, hx487_0⟩ (fun hHeld => ?_); refine with_tabW spec_ReadPolicy.tab17 spec_ReadPolicy.bits17 (fun HT_ HW_ => ?_)
          generalize wr.drew = w30 at HO_9 HO_473000 BK468 BK472 HB hx483_0 hx484_0 hx485_0 hx486_0 hx487_0 hHeld ⊢
          refine pureZ_ (i := 0) (some 53) (ba_ 23 1) (ao_ HT_) ?_
          refine pureZ_ (i := 2) (some 55) (ba_ 23 5) (ao_ HT_) ?_
          refine pureZ_ (i := 3) (some 56) (ba_ 23 13) (ao_ HT_) ?_
          refine pureZ_ (i := 5) (some 58) (ba_ 23 45) (ao_ HT_) ?_
          refine pureZ_ (i := 6) (some 59) (ba_ 23 109) (ao_ HT_) ?_
          refine pureZ_ (i := 8) (some 61) (ba_ 23 365) (ao_ HT_) ?_
          refine pureZ_ (i := 9) (some 62) (ba_ 23 877) (ao_ HT_) ?_
          refine pureZ_ (i := 12) (some 65) (ba_ 23 4973) (ao_ HT_) ?_
          refine pureZ_ (i := 13) (some 66) (ba_ 23 13165) (ao_ HT_) ?_
          refine pureZ_ (i := 15) (some 68) (ba_ 23 45933) (ao_ HT_) ?_
          refine pureZ_ (i := 16) (some 69) (ba_ 23 111469) (ao_ HT_) ?_
          refine takeZ_ (i := 1) (some 54) (ba_ 23 111471) (take_ofW HT_.out HW_.out (by kernel_rfl)) hHeld ?_
          refine takeZ_ (i := 4) (some 57) (ba_ 23 111487) (take_ofW HT_.out HW_.out (by kernel_rfl)) hHeld ?_
          refine takeZ_ (i := 7) (some 60) (ba_ 23 111615) (take_ofW HT_.out HW_.out (by kernel_rfl)) hHeld ?_
          refine takeZ_ (i := 10) (some 63) (ba_ 23 112639) (take_ofW HT_.out HW_.out (by kernel_rfl)) hHeld ?_
          refine pureZ_ (i := 11) (some 64) (ba_ 23 114687) (ao_ HT_) ?_
          refine takeZ_ (i := 14) (some 67) (ba_ 23 131071) (take_ofW HT_.out HW_.out (by kernel_rfl)) hHeld ?_
          refine takeZ_ (i := 17) (some 70) (ba_ 23 262143) (take_ofW HT_.out HW_.out (by kernel_rfl)) hHeld ?_
          refine pureZ_ (i := 18) (some 71) (ba_ 23 524287) (ao_ HT_) ?_
          refine one_ (i := 19) (N := some 72) (ba_ 23 1048575) rfl rfl (one_of HT_.out (by kernel_rfl)) (by decide) (fun K hK => ?_)
          refine value_ (w1 := ?_) (v := ?_) (by rfl) rfl ?_ ?_
          rotate_left 2
          ·go_simp
           constructor
           ·rfl
           ·rfl
          refine hK.out _ _ ⟨(blk_cell (blk_alloc BK472.out _) 0).trans rfl, (World.cell?_alloc_lt _ _ _ (World.block_lt_of_cell? _ _ (hHeld.2.1))).trans (hHeld.2.1), (World.cell?_alloc_lt _ _ _ (World.block_lt_of_cell? _ _ (hHeld.2.2.1))).trans (hHeld.2.2.1), (World.cell?_alloc_lt _ _ _ (World.block_lt_of_cell? _ _ (hHeld.2.2.2.1))).trans (hHeld.2.2.2.1), (World.cell?_alloc_lt _ _ _ (World.block_lt_of_cell? _ _ (hHeld.2.2.2.2.1))).trans (hHeld.2.2.2.2.1), (World.cell?_alloc_lt _ _ _ (World.block_lt_of_cell? _ _ (hHeld.2.2.2.2.2))).trans (hHeld.2.2.2.2.2)⟩ (fun hHeld => ?_)
          clear hK K
          refine norm_ (a' := ?_) ?_ ?_
          rotate_left
          ·show Act.put _ (some 72) _ = _
           simp only [Act.put, List.setIfInBounds_toArray, List.set_cons_zero, List.set_cons_succ, i64_w, i32_w]
           rfl
          refine last_ (i := 20) (N := some 73) (ba_ 23 2097151) rfl rfl (one_of HT_.out (by kernel_rfl)) (by decide) (fun K hK => ?_)
          refine Kd.R_append_step k57 (w0 := w) w.heap.size (by rfl) (.tmp 54) (.tmp 72) 25 57 (.agg #[(.int .i64 0), (.int .i64 0), (.int .i64 0), (.int .i64 0), (.int .i64 0)]) 40 rfl Try.underlying25 info57 rfl (by decide) (by omega) u473000 x473000_2 (⟨rd x9_3 0, (⟨rd x9_3 1, rd x9_3 2⟩ : S55), rd x9_3 3, rd x9_3 4⟩ : S57) [.int .i64 (rd x9_3 0), .int .i64 (rd x9_3 1), .int .i64 (rd x9_3 2), .int .i64 (rd x9_3 3), .int .i64 (rd x9_3 4)] (fun _ => True) (fun _ => False) rfl rfl ?aP (fun _ hk => hk.elim) ?aF ?aO ?aB ?aS ?aL ?_
          (case aP => exact k57_mkM _ _ _ (⟨rd x9_3 0, (⟨rd x9_3 1, rd x9_3 2⟩ : S55), rd x9_3 3, rd x9_3 4⟩ : S57))
          (case aB => exact bl_)
          (case aF => exact (fun _ _ => trivial))
          (case aO => exact (rr_ HO_473000))
          (case aS => exact bls_)
          (case aL => have := LMc29.out; omega)
          intro v489 w32 ho hb hg hat
          rw [← Ny488.out] at ho
          replace HO_9 := aa_ (Kd.R_over' (rr_ HO_9) (Kd.R_typed (rr_ HO_473000)) (by decide) hg)
          replace BK468 := aa_ (blk_grown (g := gb468) (o := .cells #[.slice none 0 0] 27 (0, 0)) (bk_ BK468) hg (Kd.R_ne HO_473000.out BK468.out (by decide)))
          replace BK472 := aa_ (blk_grown (g := gb472) (o := .cells #[u473000] 27 (0, 0)) (bk_ BK472) hg (Kd.R_ne HO_473000.out BK472.out (by decide)))
          replace HB := aa_ (hb)
          have HO490 := aa_ (ho)
          clear HO_473000
          clear ho hb hg hat
          obtain ⟨Ao33, co33, eo33⟩ := Kd.R_slice HO490.out
          (first | subst eo33 | (injection eo33 with f1_ f2_ f3_; have f4_ := f1_.symm; have f5_ := f3_.symm; clear f1_ f2_ f3_; subst f4_; subst f5_))
          refine hK.out _ _ ?_
          clear hK K
          refine norm_ (a' := ?_) ?_ ?_
          rotate_left
          ·show Act.put _ (some 73) _ = _
           simp only [Act.put, List.setIfInBounds_toArray, List.set_cons_zero, List.set_cons_succ, i64_w, i32_w]
           rfl
          refine pureZ_ (i := 21) (some 74) (ba_ 23 4194303) (ao_ HT_) ?_
          refine last_ (i := 22) (N := none) (ba_ 23 8388607) rfl rfl (one_of HT_.out (by kernel_rfl)) (by decide) (fun K hK => ?_)
          have hs34 : w32.cell? ⟨gb472, 0, none⟩ = some (u473000) := (blk_cell BK472.out 0).trans rfl
          have hfs34 := blk_frozen BK472.out 0
          have hns34_0 := NB468_472.out
          have hms34_0 := NB472_468.out
          refine skip_ (w1 := ?_) (by rfl) rfl ?_ ?_
          rotate_left
          ·go_simp
           rfl
          refine hK.out _ _ ?_
          clear hK K
          refine done_ (done_of HT_.out (by kernel_rfl)) ?_
          try go_wp2
          go_roundg k3
          case measure => have := HJ2.out; have := HK2.out; have := HK3.out; omega
          case rel => exact ⟨(x5_3), (wrap64 (x8_2 + 1)), (y488), (.slice Ao33 y488.length co33), rf_, rf_, H', ⟨by have := HJ2.out; have := HK2.out; have := HK3.out; omega⟩, ⟨by (with_reducible repeat (first | apply Kd.R_alloc | apply Kd.R_drewN | apply Kd.R_drew)); exact Kd.R_mono (Kd.R_far (p := ⟨gb472, 0, none⟩) (Kd.R_types HO490.out BK472.out (by decide)) (fun _ hk => hk.2) (.slice Ao33 y488.length co33)) (fun _ hk => trivial)⟩, ⟨bk_ BK468⟩, ⟨bk_ BK472⟩, ⟨bl_⟩⟩
      ·rw [if_neg c12] at H
       have c12b0 : decide (x8_2 < t469) = false := decide_eq_false c12
       clear c12
       obtain ⟨t473, A35, H⟩ := bindE_ H
       by_cases c36 : t473.toList = a0.toList
       ·rw [if_pos c36] at H
        have c36b0 : (t473.toList == a0.toList) = true := beq_iff_eq.mpr c36
        have c36b1 : (t473.toList != a0.toList) = false := bne_eq_false_iff_eq.mpr c36
        clear c36
        by_cases c37 : a0.toList = ([] : List UInt8)
        ·rw [if_pos c37] at H
         have c37b0 : (a0.toList == ([] : List UInt8)) = true := beq_iff_eq.mpr c37
         have c37b1 : (a0.toList != ([] : List UInt8)) = false := bne_eq_false_iff_eq.mpr c37
         clear c37
         simp only [Option.some.injEq, Prod.mk.injEq] at H
         obtain ⟨rfl, rfl⟩ := H
         have hnb38 := NB472_468.out
         have hnc38 := NB468_472.out
         have hcz39 := blk_cell BK472.out
         have hfz39 := blk_frozen BK472.out
         obtain ⟨Ao40, co40, eo40⟩ := Kd.R_slice HO_473000.out
         subst eo40
         go_wp2_with (first | ((with_reducible refine gC_ 22 rfl ?_); refine goesC_ (some 76) Try.func22 #[.agg #[.slice Ao40 x473000_2.length co40]] ?_; (with_reducible refine (spec_PolicyText.calls k2 _ _ x473000_2 t473 _ ?side1 ?side2 A35.out).mono ?_); (case side1 => repeat (first | exact (Kd.R_reads' HO_473000.out).2.2 | (with_reducible refine Kd.C_alloc ?_ _) | (with_reducible refine Kd.C_drewN ?_ _) | (with_reducible refine Kd.C_drew ?_))); (case side2 => exact (Kd.R_reads' HO_473000.out).2.1); rintro e w41 ⟨rfl, hb⟩; refine ⟨_, rfl, ?_⟩; replace HO_473000 := hob_ HO_473000 hb; replace BK468 := bkb_ BK468 hb; replace BK472 := bkb_ BK472 hb; replace HB := hbs_ hb; clear hb; obtain ⟨hcz42, hfz42⟩ := bcf_ BK468))
         refine bodyPost_ret (results_ct rfl _ _ gb468 27 #[.slice none 0 0] (0, 0) _ rfl (bk_ BK468) Try.underlying27 rfl (by kernel_rfl)) rfl ?_
         exact ⟨_, eq_, by first | exact Kd.R_nil _ _ _ _ _ | exact Kd.N_nil _ _ _ _ _ | exact Kd.V_nil _ _ _ _ _ | exact Kd.Q_nil _ _ _ _ _ | exact Kd.S_nil _ _ _ _ _, bl_⟩
        ·rw [if_neg c37] at H
         have c37b0 : (a0.toList == ([] : List UInt8)) = false := beq_eq_false_iff_ne.mpr c37
         have c37b1 : (a0.toList != ([] : List UInt8)) = true := bne_iff_ne.mpr c37
         simp only [Option.some.injEq, Prod.mk.injEq] at H
         obtain ⟨rfl, rfl⟩ := H
         have hnb43 := NB472_468.out
         have hnc43 := NB468_472.out
         have hcz44 := blk_cell BK472.out
         have hfz44 := blk_frozen BK472.out
         obtain ⟨Ao45, co45, eo45⟩ := Kd.R_slice HO_473000.out
         subst eo45
         go_wp2_with (first | ((with_reducible refine gC_ 22 rfl ?_); refine goesC_ (some 76) Try.func22 #[.agg #[.slice Ao45 x473000_2.length co45]] ?_; (with_reducible refine (spec_PolicyText.calls k2 _ _ x473000_2 t473 _ ?side1 ?side2 A35.out).mono ?_); (case side1 => repeat (first | exact (Kd.R_reads' HO_473000.out).2.2 | (with_reducible refine Kd.C_alloc ?_ _) | (with_reducible refine Kd.C_drewN ?_ _) | (with_reducible refine Kd.C_drew ?_))); (case side2 => exact (Kd.R_reads' HO_473000.out).2.1); rintro e w46 ⟨rfl, hb⟩; refine ⟨_, rfl, ?_⟩; replace HO_473000 := hob_ HO_473000 hb; replace BK468 := bkb_ BK468 hb; replace BK472 := bkb_ BK472 hb; replace HB := hbs_ hb; clear hb; obtain ⟨hcz47, hfz47⟩ := bcf_ BK472; obtain ⟨hcz48, hfz48⟩ := bcf_ BK468))
         refine bodyPost_ret (results_ct rfl _ _ gb468 27 #[.slice Ao45 x473000_2.length co45] (0, 0) _ rfl (bk_ BK468) Try.underlying27 rfl (by kernel_rfl)) rfl ?_
         exact ⟨_, eq_, by (with_reducible repeat (first | apply Kd.R_alloc | apply Kd.R_drewN | apply Kd.R_drew)); exact Kd.R_mono (Kd.R_far (p := ⟨gb468, 0, none⟩) (Kd.R_types HO_473000.out BK468.out (by decide)) (fun _ hk => hk.2) (.slice Ao45 x473000_2.length co45)) (fun _ hk => trivial), bl_⟩
       ·rw [if_neg c36] at H
        have c36b0 : (t473.toList == a0.toList) = false := beq_eq_false_iff_ne.mpr c36
        have c36b1 : (t473.toList != a0.toList) = true := bne_iff_ne.mpr c36
        simp only [Option.some.injEq, Prod.mk.injEq] at H
        obtain ⟨rfl, rfl⟩ := H
        have hnb49 := NB472_468.out
        have hnc49 := NB468_472.out
        have hcz50 := blk_cell BK472.out
        have hfz50 := blk_frozen BK472.out
        obtain ⟨Ao51, co51, eo51⟩ := Kd.R_slice HO_473000.out
        subst eo51
        go_wp2_with (first | ((with_reducible refine gC_ 22 rfl ?_); refine goesC_ (some 76) Try.func22 #[.agg #[.slice Ao51 x473000_2.length co51]] ?_; (with_reducible refine (spec_PolicyText.calls k2 _ _ x473000_2 t473 _ ?side1 ?side2 A35.out).mono ?_); (case side1 => repeat (first | exact (Kd.R_reads' HO_473000.out).2.2 | (with_reducible refine Kd.C_alloc ?_ _) | (with_reducible refine Kd.C_drewN ?_ _) | (with_reducible refine Kd.C_drew ?_))); (case side2 => exact (Kd.R_reads' HO_473000.out).2.1); rintro e w52 ⟨rfl, hb⟩; refine ⟨_, rfl, ?_⟩; replace HO_473000 := hob_ HO_473000 hb; replace BK468 := bkb_ BK468 hb; replace BK472 := bkb_ BK472 hb; replace HB := hbs_ hb; clear hb; obtain ⟨hcz53, hfz53⟩ := bcf_ BK468))
        refine bodyPost_ret (results_ct rfl _ _ gb468 27 #[.slice none 0 0] (0, 0) _ rfl (bk_ BK468) Try.underlying27 rfl (by kernel_rfl)) rfl ?_
        exact ⟨_, eq_, by first | exact Kd.R_nil _ _ _ _ _ | exact Kd.N_nil _ _ _ _ _ | exact Kd.V_nil _ _ _ _ _ | exact Kd.Q_nil _ _ _ _ _ | exact Kd.S_nil _ _ _ _ _, bl_⟩
def impl_Fact_54.l0 : Nat → List (S63) → Int → Int → Int → Int → Int → Option (Int)
 | 0, _, _, _, _, _, _ => none
 | k + 1, x0, x7, x8, x492000, x492001, x492002 => if x8 < x7 then (if 0 ≤ x8 then (if x8 < (x0.length : Int) then (if ((x492000 == ((rd_T63 x0 x8).f0.f0) && (x492001 == ((rd_T63 x0 x8).f0.f1))) && (x492002 == ((rd_T63 x0 x8).f1))) = true then (some x8) else (impl_Fact_54.l0 k x0 x7 (wrap64 (x8 + 1)) x492000 x492001 x492002)) else (none)) else (none)) else (some (-1))
def impl_Fact_54.f (k : Nat) (l0 : List (S63)) (a1_0 : Int) (a1_1 : Int) (a1_2 : Int) : Option (Int) := impl_Fact_54.l0 k l0 (l0.length : Int) 0 a1_0 a1_1 a1_2
set_option maxHeartbeats 8000000 in
set_option maxRecDepth 100000 in
theorem impl_Fact_54.calls (k : Nat) (A0 : Option Addr) (c0 : Nat) (l0 : List (S63)) (a1_0 : Int) (a1_1 : Int) (a1_2 : Int) (r : Int) (w : World) (hr0 : Kd.C k63 w A0 l0.length l0) (hc0 : l0.length ≤ c0) (h : impl_Fact_54.f k l0 a1_0 a1_1 a1_2 = some r) :
  Calls Try.prog 54 #[.slice A0 l0.length c0, .agg #[.int .i64 a1_0, .int .i64 a1_1, .int .i64 a1_2]] w fun e w' => e = .returned (.int .i64 r) ∧ Below w.heap.size w w' := by
 have hu63 := Try.underlying63
 have HR0 := aa_ hr0
 have HC0 := aa_ hc0
 clear hr0 hc0
 have HB := aa_ (Below.refl w.heap.size w)
 have H : (impl_Fact_54.l0 k l0 (l0.length : Int) 0 a1_0 a1_1 a1_2) = some r := h
 clear h
 have H' := aa_ H
 clear H
 go_enter Try.func54, Try.ntmps54
 go_wp2_with (first | ((with_reducible refine gD_ 3 rfl ?_); refine bx_ (N := 3) (cs := #[.int .i64 a1_0, .int .i64 a1_1, .int .i64 a1_2]) (t := 63) ?_; intro gb491 hg w3 hbox hb; have BK491 := aa_ (hbox); have GW491 := gs_ hg; have GE491 := gs_ hg; replace HB := hbs_ hb; clear hb hbox hg))
 repeat (go_quiet (first | ((with_reducible refine gD_ 3 rfl ?_); refine bx_ (N := 3) (cs := #[.int .i64 a1_0, .int .i64 a1_1, .int .i64 a1_2]) (t := 63) ?_; intro gb491 hg w3 hbox hb; have BK491 := aa_ (hbox); have GW491 := gs_ hg; have GE491 := gs_ hg; replace HB := hbs_ hb; clear hb hbox hg)); try go_wp2_with (first | ((with_reducible refine gD_ 3 rfl ?_); refine bx_ (N := 3) (cs := #[.int .i64 a1_0, .int .i64 a1_1, .int .i64 a1_2]) (t := 63) ?_; intro gb491 hg w3 hbox hb; have BK491 := aa_ (hbox); have GW491 := gs_ hg; have GE491 := gs_ hg; replace HB := hbs_ hb; clear hb hbox hg)))
 go_loopg [8] k (fun kq v8 w' => ∃ (x8_1 : Int), v8 = .int .i64 x8_1 ∧ Aside0 (impl_Fact_54.l0 kq l0 (l0.length : Int) x8_1 a1_0 a1_1 a1_2 = some r) ∧ Aside0 (kq ≤ k) ∧ Aside0 (w'.heap[gb491]? = some (.cells #[.int .i64 a1_0, .int .i64 a1_1, .int .i64 a1_2] 63 (0, 0))) ∧ Aside0 (Below w.heap.size w w'))
 case atStart => exact ⟨(0), rf_, H', ⟨Nat.le_refl _⟩, ⟨bk_ BK491⟩, ⟨bl_⟩⟩
 case round =>
  clear H'
  try clear p2
  obtain ⟨x8_1, rfl, HA, HK1, BK491, HB⟩ := hrel
  cases gk with
  | zero => exact absurd HA.out (by simp [impl_Fact_54.l0])
  | succ k1 =>
   have H := HA.out
   clear HA
   simp only [impl_Fact_54.l0] at H
   by_cases c4 : x8_1 < (l0.length : Int)
   ·rw [if_pos c4] at H
    have c4b0 : decide (x8_1 < (l0.length : Int)) = true := decide_eq_true c4
    clear c4
    obtain ⟨c5b0, H⟩ := ifd_ H
    obtain ⟨c6b0, H⟩ := ifd_ H
    have HC7 := aa_ H
    clear H
    have hcz8 := blk_cell BK491.out
    have hfz8 := blk_frozen BK491.out
    have p492 : 0 ≤ (x8_1 : Int) := od_
    have q492 : x8_1 < (l0.length : Int) := od_
    obtain ⟨ad492, e492, hx492_0, hx492_1, hx492_2⟩ := at_T63 (Kd.C_below HR0.out HB.out) x8_1 p492 q492
    cases e492
    replace p492 := eq_true p492
    replace q492 := eq_true q492
    go_upto_if 16 with (fail)
    repeat (go_quiet (fail); go_upto_if 16 with (fail))
    have H := HC7.out
    clear HC7
    by_cases c9 : ((a1_0 == ((rd_T63 l0 x8_1).f0.f0) && (a1_1 == ((rd_T63 l0 x8_1).f0.f1))) && (a1_2 == ((rd_T63 l0 x8_1).f1))) = true
    ·rw [if_pos c9] at H
     have c9b0 : ((a1_0 == ((rd_T63 l0 x8_1).f0.f0) && (a1_1 == ((rd_T63 l0 x8_1).f0.f1))) && (a1_2 == ((rd_T63 l0 x8_1).f1))) = true := c9
     clear c9
     (first | rw [c9b0] | (simp only [i64_w, i32_w]; rw [c9b0]) | skip)
     obtain rfl := Option.some.inj H
     go_wp2
     repeat (go_quiet (fail); try go_wp2)
     go_ret
     exact ⟨eq_, bl_⟩
    ·rw [if_neg c9] at H
     have c9b0 : ((a1_0 == ((rd_T63 l0 x8_1).f0.f0) && (a1_1 == ((rd_T63 l0 x8_1).f0.f1))) && (a1_2 == ((rd_T63 l0 x8_1).f1))) = false := by simpa using c9
     clear c9
     (first | rw [c9b0] | (simp only [i64_w, i32_w]; rw [c9b0]) | skip)
     have H' := aa_ H
     clear H
     go_wp2
     repeat (go_quiet (fail); try go_wp2)
     go_roundg k1
     case measure => have := HK1.out; omega
     case rel => exact ⟨(wrap64 (x8_1 + 1)), rf_, H', ⟨by have := HK1.out; omega⟩, ⟨bk_ BK491⟩, ⟨bl_⟩⟩
   ·rw [if_neg c4] at H
    have c4b0 : decide (x8_1 < (l0.length : Int)) = false := decide_eq_false c4
    clear c4
    obtain rfl := Option.some.inj H
    go_wp2
    repeat (go_quiet (fail); try go_wp2)
    go_ret
    exact ⟨eq_, bl_⟩
def impl_Fact_35.f (k : Nat) (l0 : List (S63)) (a1_0 : Int) (a1_1 : Int) (a1_2 : Int) : Option (Bool) := (impl_Fact_54.f k l0 a1_0 a1_1 a1_2).bind fun t494 => (some (decide (t494 ≥ 0)))
set_option maxHeartbeats 8000000 in
set_option maxRecDepth 100000 in
theorem impl_Fact_35.calls (k : Nat) (A0 : Option Addr) (c0 : Nat) (l0 : List (S63)) (a1_0 : Int) (a1_1 : Int) (a1_2 : Int) (r : Bool) (w : World) (hr0 : Kd.C k63 w A0 l0.length l0) (hc0 : l0.length ≤ c0) (h : impl_Fact_35.f k l0 a1_0 a1_1 a1_2 = some r) :
  Calls Try.prog 35 #[.slice A0 l0.length c0, .agg #[.int .i64 a1_0, .int .i64 a1_1, .int .i64 a1_2]] w fun e w' => e = .returned (.bool r) ∧ Below w.heap.size w w' := by
 have hu63 := Try.underlying63
 have HR0 := aa_ hr0
 have HC0 := aa_ hc0
 clear hr0 hc0
 have HB := aa_ (Below.refl w.heap.size w)
 have H : ((impl_Fact_54.f k l0 a1_0 a1_1 a1_2).bind fun t494 => (some (decide (t494 ≥ 0)))) = some r := h
 clear h
 obtain ⟨t494, A3, H⟩ := bindE_ H
 obtain rfl := Option.some.inj H
 go_enter Try.func35, Try.ntmps35
 go_wp2_with (first | ((with_reducible refine gD_ 3 rfl ?_); refine bx_ (N := 3) (cs := #[.int .i64 a1_0, .int .i64 a1_1, .int .i64 a1_2]) (t := 63) ?_; intro gb493 hg w4 hbox hb; have BK493 := aa_ (hbox); have GW493 := gs_ hg; have GE493 := gs_ hg; replace HB := hbs_ hb; clear hb hbox hg; obtain ⟨hcz5, hfz5⟩ := bcf_ BK493) | ((with_reducible refine gC_ 54 rfl ?_); refine goesC_ (some 7) Try.func54 #[.slice A0 l0.length c0, .agg #[.int .i64 a1_0, .int .i64 a1_1, .int .i64 a1_2]] ?_; (with_reducible refine (impl_Fact_54.calls k _ _ l0 a1_0 a1_1 a1_2 t494 _ ?side1 ?side2 A3.out).mono ?_); (case side1 => repeat (first | exact (Kd.C_below HR0.out HB.out) | (with_reducible refine Kd.C_alloc ?_ _) | (with_reducible refine Kd.C_drewN ?_ _) | (with_reducible refine Kd.C_drew ?_))); (case side2 => exact HC0.out); rintro e w6 ⟨rfl, hb⟩; refine ⟨_, rfl, ?_⟩; replace BK493 := bkb_ BK493 hb; replace HB := hbs_ hb; clear hb))
 go_ret
 exact ⟨eq_, bl_⟩
def impl_isPerson.f (a0 : Int) : Option (Bool) := (impl_in.f a0 0 5).bind fun t495 => (some t495)
set_option maxHeartbeats 8000000 in
set_option maxRecDepth 100000 in
theorem impl_isPerson.calls (a0 : Int) (r : Bool) (w : World) (h : impl_isPerson.f a0 = some r) :
  Calls Try.prog 65 #[.int .i64 a0] w fun e w' => e = .returned (.bool r) ∧ Drawn0 w w' := by
 have H : ((impl_in.f a0 0 5).bind fun t495 => (some t495)) = some r := h
 clear h
 obtain ⟨t495, A2, H⟩ := bindE_ H
 obtain rfl := Option.some.inj H
 go_enter Try.func65, Try.ntmps65
 go_wp2_with (first | ((with_reducible refine gC_ 38 rfl ?_); refine goesC_ (some 4) Try.func38 #[.int .i64 a0, .int .i64 0, .int .i64 5] ?_; (with_reducible refine (impl_in.calls a0 0 5 t495 _ A2.out).mono ?_); rintro e w' ⟨rfl, ⟨nd, rfl⟩⟩; refine ⟨_, rfl, ?_⟩))
 go_ret
 exact ⟨by first | rfl | (simp; done) | (simp [*]; done), by repeat (first | exact Drawn0.refl _ | apply Drawn0.step)⟩
end Go.Proofs.Ytnoklfpnmopkpaa.PE
