import Derived.Test.YtppdmcimddhbaaaKCPGx7
-- printed by wip/tools
namespace Go.Proofs.Ytppdmcimddhbaaa.PG
open Go.RowKit Go.Proofs.YtppdmcimddhbaaaW.PrintWords Go.Proofs.YtppdmcimddhbaaaW.PrintLast Go.Proofs.YtppdmcimddhbaaaW.PrintMore
attribute [local go_sem] max2_int min2_int max_two min_two max_three min_three max_four min_four
set_option linter.unusedVariables false
set_option linter.unusedSimpArgs false
mutual
def spec_l19Sizes.l0 : Nat → List (S46) → List (S29) → List Int → Bool → Option (List Int)
 | 0, _, _, _, _ => none
 | k + 1, x0, x1, x5, x6 => if x6 = true then (spec_l19Sizes.l1 k x0 x1 x5 false 0) else (some x5)
def spec_l19Sizes.l1 : Nat → List (S46) → List (S29) → List Int → Bool → Int → Option (List Int)
 | 0, _, _, _, _, _ => none
 | k + 1, x0, x1, x5, x6, x7 => if x7 < (x1.length : Int) then (spec_l19Sizes.l2 k x0 x1 x5 x6 x7 0) else (spec_l19Sizes.l0 k x0 x1 x5 x6)
def spec_l19Sizes.l2 : Nat → List (S46) → List (S29) → List Int → Bool → Int → Int → Option (List Int)
 | 0, _, _, _, _, _, _ => none
 | k + 1, x0, x1, x5, x6, x7, x8 => if x8 < (x0.length : Int) then (if 0 ≤ x8 then (if 0 ≤ x7 then (if x7 < (x1.length : Int) then ((spec_l19By.f k x1 x5 ((rd_T46 x0 x8).f0) ((rd_T46 x0 x8).f1.f0) ((rd_T46 x0 x8).f1.f1) ((rd_T46 x0 x8).f2) ((rd_T46 x0 x8).f3.f0) ((rd_T46 x0 x8).f3.f1) ((rd_T46 x0 x8).f4.f0) ((rd_T46 x0 x8).f4.f1) ((rd_T46 x0 x8).f5) ((rd_T46 x0 x8).f6) ((rd_T29 x1 x7).f0.f0) ((rd_T29 x1 x7).f0.f1) ((rd_T29 x1 x7).f1)).bind fun bt245 => (if bt245.1 > 0 then (if x7 < (x5.length : Int) then (if (rd x5 x7) = 0 then (spec_l19Sizes.l2 k x0 x1 (x5.set (x7 : Int).toNat bt245.1) true x7 (wrap64 (x8 + 1))) else (if bt245.1 < (rd x5 x7) then (spec_l19Sizes.l2 k x0 x1 (x5.set (x7 : Int).toNat bt245.1) true x7 (wrap64 (x8 + 1))) else (spec_l19Sizes.l2 k x0 x1 x5 x6 x7 (wrap64 (x8 + 1))))) else (none)) else (spec_l19Sizes.l2 k x0 x1 x5 x6 x7 (wrap64 (x8 + 1))))) else (none)) else (none)) else (none)) else (spec_l19Sizes.l1 k x0 x1 x5 x6 (wrap64 (x7 + 1)))
end
def spec_l19Sizes.f (k : Nat) (l0 : List (S46)) (l1 : List (S29)) : Option (List Int) := if 0 ≤ (l1.length : Int) then (if ((l1.length : Int) : Int).toNat ≤ 35184372088832 then (spec_l19Sizes.l0 k l0 l1 (List.replicate ((l1.length : Int) : Int).toNat 0) true) else (none)) else (none)
def spec_l19Sizes.T11 : Bool × List (List Nat × List Nat) := (true, [([], []), ([], []), ([], []), ([], []), ([2, 3], [2, 3]), ([4], [4]), ([], []), ([], []), ([6, 7], [6, 7]), ([8], [8]), ([0, 1, 5, 9], [0, 1, 5, 9]), ([], []), ([11, 10, 10, 0, 1, 2, 3, 4, 5, 6, 7, 8, 9, 10, 11], [10, 11])])
def spec_l19Sizes.B11 : List Nat := [0, 0, 0, 0, 12, 28, 0, 0, 192, 448, 1023, 0, 4095]
theorem spec_l19Sizes.tab11 : rtab .any (opsOf Try.f118 11) = spec_l19Sizes.T11 := by kernel_rfl
theorem spec_l19Sizes.bits11 : waitsOk spec_l19Sizes.T11.2 spec_l19Sizes.B11 = true := by kernel_rfl
def spec_l19Sizes.T12 : Bool × List (List Nat × List Nat) := (true, [([], []), ([0], [0]), ([1], [1]), ([2], [2]), ([3], [3]), ([3], [3]), ([4, 5, 3], [3, 4, 5]), ([6, 3], [3, 6]), ([7, 3], [3, 7]), ([8, 3, 3], [3, 8]), ([9], [9]), ([10, 9], [9, 10]), ([9], [9]), ([9], [9]), ([12, 13, 9], [9, 12, 13]), ([14, 9], [9, 14]), ([11, 15, 9], [9, 11, 15]), ([9, 16, 3], [3, 9, 16]), ([3, 17], [3, 17])])
def spec_l19Sizes.B12 : List Nat := [0, 1, 3, 7, 15, 15, 63, 127, 255, 511, 1023, 2047, 1023, 1023, 13311, 29695, 65535, 131071, 262143]
theorem spec_l19Sizes.tab12 : rtab .any (opsOf Try.f118 12) = spec_l19Sizes.T12 := by kernel_rfl
theorem spec_l19Sizes.bits12 : waitsOk spec_l19Sizes.T12.2 spec_l19Sizes.B12 = true := by kernel_rfl
set_option maxHeartbeats 8000000 in
set_option maxRecDepth 100000 in
theorem spec_l19Sizes.calls (k : Nat) (A0 : Option Addr) (c0 : Nat) (l0 : List (S46)) (A1 : Option Addr) (c1 : Nat) (l1 : List (S29)) (r : List Int) (w : World) (hr0 : Kd.C k46 w A0 l0.length l0) (hc0 : l0.length ≤ c0) (hr1 : Kd.C k29 w A1 l1.length l1) (hc1 : l1.length ≤ c1) (h : spec_l19Sizes.f k l0 l1 = some r) :
  Calls Try.prog 118 #[.slice A0 l0.length c0, .slice A1 l1.length c1] w fun e w' => ∃ v0_ : Value, e = .returned (v0_) ∧ Kd.R (Kd.int .i64) 3 w' w.heap.size (fun _ => True) v0_ r ∧ Below w.heap.size w w' := by
 have hu46 := Try.underlying46
 have hu29 := Try.underlying29
 have hu167 := Try.underlying167
 have HR0 := Aside0.mk hr0
 have HC0 := Aside0.mk hc0
 clear hr0 hc0
 have HR1 := Aside0.mk hr1
 have HC1 := Aside0.mk hc1
 clear hr1 hc1
 have HB := Aside0.mk (Below.refl w.heap.size w)
 have H : (if 0 ≤ (l1.length : Int) then (if ((l1.length : Int) : Int).toNat ≤ 35184372088832 then (spec_l19Sizes.l0 k l0 l1 (List.replicate ((l1.length : Int) : Int).toNat 0) true) else (none)) else (none)) = some r := h
 clear h
 obtain ⟨c3, H⟩ := ifn_ H
 have c3b0 := eq_true c3
 have c3b1 : decide (0 ≤ (l1.length : Int)) = true := decide_eq_true c3
 clear c3
 obtain ⟨c4, H⟩ := ifn_ H
 have c4b0 := eq_true c4
 have c4b1 : decide (((l1.length : Int) : Int).toNat ≤ 35184372088832) = true := decide_eq_true c4
 clear c4
 obtain ⟨y240, hy240⟩ : ∃ y_ : List Int, y_ = (List.replicate ((l1.length : Int) : Int).toNat 0) := ⟨_, rfl⟩
 replace H : (spec_l19Sizes.l0 k l0 l1 y240 true) = some r := by first | (rw [hy240]; with_reducible exact H) | (have H2_ := (Option.bind_some _ _).symm.trans H; rw [hy240]; with_reducible exact H2_) | (have H2_ := (Option.bind_some _ _).symm.trans H; with_reducible exact H2_) | with_reducible exact H | (rw [hy240]; exact H) | exact H
 have Ny240 := Aside0.mk hy240
 clear hy240
 have H' := Aside0.mk H
 clear H
 go_enter Try.func118, Try.ntmps118
 go_wp2_with (first | ((with_reducible refine gate_dst (N := 12) rfl ?_); refine Kd.R_make (Kd.int .i64) _ 3 rfl (N := 12) rfl 32 _ _ rfl (l1.length : Int) rfl rfl Try.underlying32 (.int .i64 0) 8 info3 rfl (by decide) (by omega) 0 (ok := fun _ => True) (okp := fun _ => True) rfl (fun _ hk => hk) trivial (od_) (Nat.le_trans (Nat.mul_le_mul_right _ (od_ : (l1.length : Int).toNat ≤ 35184372088832)) (by omega)) (Below.refl _ _) (Nat.le_refl _) ?_; intro v241 w5 ho6 hb hg_ hnew_; clear hg_ hnew_; (first | rw [← Ny240.out] at ho6 | (simp only [Int.reduceToNat] at ho6; rw [← Ny240.out] at ho6)); have HO242 := Aside0.mk (Kd.R_lower ho6 bls_); replace HB := hbs_ hb; clear hb ho6))
 go_loopg [6] k (fun kq v6 w' => ∃ (x5_1 : List Int) (x6_1 : Bool), v6 = .bool x6_1 ∧ Aside0 (spec_l19Sizes.l0 kq l0 l1 x5_1 x6_1 = some r) ∧ Aside0 (kq ≤ k) ∧ Aside0 (Kd.R (Kd.int .i64) 3 w' w.heap.size (fun _ => True) v241 x5_1) ∧ Aside0 (Below w.heap.size w w'))
 case atStart => exact ⟨(y240), (true), rf_, H', ⟨Nat.le_refl _⟩, ⟨by (with_reducible repeat (first | apply Kd.R_alloc | apply Kd.R_drewN | apply Kd.R_drew)); exact HO242.out⟩, ⟨bl_⟩⟩
 case round =>
  clear H'
  try clear c1
  try clear p2
  try clear c3
  try clear c3b0
  try clear c3b1
  try clear c4
  try clear c4b0
  try clear c4b1
  obtain ⟨x5_1, x6_1, rfl, HA, HK1, HO_5, HB⟩ := hrel
  cases gk with
  | zero => exact absurd HA.out (by simp [spec_l19Sizes.l0])
  | succ k1 =>
   have H := HA.out
   clear HA
   simp only [spec_l19Sizes.l0] at H
   by_cases c7 : x6_1 = true
   ·subst c7
    replace H := ite_t_ H
    have H' := Aside0.mk H
    clear H
    go_wp2
    go_loopg [6, 7] k1 (fun kq v6 v7 w' => ∃ (x5_2 : List Int) (x6_2 : Bool) (x7_2 : Int), v6 = .bool x6_2 ∧ v7 = .int .i64 x7_2 ∧ Aside0 (spec_l19Sizes.l1 kq l0 l1 x5_2 x6_2 x7_2 = some r) ∧ Aside0 (kq ≤ k1) ∧ Aside0 (Kd.R (Kd.int .i64) 3 w' w.heap.size (fun _ => True) v241 x5_2) ∧ Aside0 (Below w.heap.size w w'))
    case atStart => exact ⟨(x5_1), (false), (0), rf_, rf_, H', ⟨Nat.le_refl _⟩, ⟨by (with_reducible repeat (first | apply Kd.R_alloc | apply Kd.R_drewN | apply Kd.R_drew)); exact HO_5.out⟩, ⟨bl_⟩⟩
    case round =>
     clear H'
     try clear c1
     try clear p2
     try clear c3
     try clear c3b0
     try clear c3b1
     try clear c4
     try clear c4b0
     try clear c4b1
     try clear c7
     try clear p2
     obtain ⟨x5_2, x6_2, x7_2, rfl, rfl, HA, HK2, HO_5, HB⟩ := hrel
     cases gk with
     | zero => exact absurd HA.out (by simp [spec_l19Sizes.l1])
     | succ k2 =>
      have H := HA.out
      clear HA
      simp only [spec_l19Sizes.l1] at H
      by_cases c8 : x7_2 < (l1.length : Int)
      ·rw [if_pos c8] at H
       have c8b0 : decide (x7_2 < (l1.length : Int)) = true := decide_eq_true c8
       clear c8
       have H' := Aside0.mk H
       clear H
       go_wp2
       go_loopg [6, 8] k2 (fun kq v6 v8 w' => ∃ (x5_3 : List Int) (x6_3 : Bool) (x8_3 : Int), v6 = .bool x6_3 ∧ v8 = .int .i64 x8_3 ∧ Aside0 (spec_l19Sizes.l2 kq l0 l1 x5_3 x6_3 x7_2 x8_3 = some r) ∧ Aside0 (kq ≤ k2) ∧ Aside0 (Kd.R (Kd.int .i64) 3 w' w.heap.size (fun _ => True) v241 x5_3) ∧ Aside0 (Below w.heap.size w w'))
       case atStart => exact ⟨(x5_2), (x6_2), (0), rf_, rf_, H', ⟨Nat.le_refl _⟩, ⟨by (with_reducible repeat (first | apply Kd.R_alloc | apply Kd.R_drewN | apply Kd.R_drew)); exact HO_5.out⟩, ⟨bl_⟩⟩
       case round =>
        clear H'
        try clear c1
        try clear p2
        try clear c3
        try clear c3b0
        try clear c3b1
        try clear c4
        try clear c4b0
        try clear c4b1
        try clear c7
        try clear c8
        try clear c8b0
        try clear p2
        obtain ⟨x5_3, x6_3, x8_3, rfl, rfl, HA, HK3, HO_5, HB⟩ := hrel
        cases gk with
        | zero => exact absurd HA.out (by simp [spec_l19Sizes.l2])
        | succ k3 =>
         have H := HA.out
         clear HA
         simp only [spec_l19Sizes.l2] at H
         by_cases c9 : x8_3 < (l0.length : Int)
         ·rw [if_pos c9] at H
          have c9b0 : decide (x8_3 < (l0.length : Int)) = true := decide_eq_true c9
          clear c9
          obtain ⟨c10b0, H⟩ := ifd_ H
          obtain ⟨c11b0, H⟩ := ifd_ H
          obtain ⟨c12b0, H⟩ := ifd_ H
          obtain ⟨⟨t245, t246⟩, A13, H⟩ := bindE_ H
          replace H : (if t245 > 0 then (if x7_2 < (x5_3.length : Int) then (if (rd x5_3 x7_2) = 0 then (spec_l19Sizes.l2 k3 l0 l1 (x5_3.set (x7_2 : Int).toNat t245) true x7_2 (wrap64 (x8_3 + 1))) else (if t245 < (rd x5_3 x7_2) then (spec_l19Sizes.l2 k3 l0 l1 (x5_3.set (x7_2 : Int).toNat t245) true x7_2 (wrap64 (x8_3 + 1))) else (spec_l19Sizes.l2 k3 l0 l1 x5_3 x6_3 x7_2 (wrap64 (x8_3 + 1))))) else (none)) else (spec_l19Sizes.l2 k3 l0 l1 x5_3 x6_3 x7_2 (wrap64 (x8_3 + 1)))) = some r := H
          by_cases c14 : t245 > 0
          ·rw [if_pos c14] at H
           have c14b0 : decide (0 < t245) = true := decide_eq_true c14
           clear c14
           obtain ⟨c15b0, H⟩ := ifd_ H
           by_cases c16 : (rd x5_3 x7_2) = 0
           ·rw [if_pos c16] at H
            have c16b0 : ((rd x5_3 x7_2) == 0) = true := beq_iff_eq.mpr c16
            have c16b1 : ((rd x5_3 x7_2) != 0) = false := bne_eq_false_iff_eq.mpr c16
            clear c16
            obtain ⟨y251, hy251⟩ : ∃ y_ : List Int, y_ = (x5_3.set (x7_2 : Int).toNat t245) := ⟨_, rfl⟩
            replace H : (spec_l19Sizes.l2 k3 l0 l1 y251 true x7_2 (wrap64 (x8_3 + 1))) = some r := by first | (rw [hy251]; with_reducible exact H) | (have H2_ := (Option.bind_some _ _).symm.trans H; rw [hy251]; with_reducible exact H2_) | (have H2_ := (Option.bind_some _ _).symm.trans H; with_reducible exact H2_) | with_reducible exact H | (rw [hy251]; exact H) | exact H
            have Ny251 := Aside0.mk hy251
            clear hy251
            have H' := Aside0.mk H
            clear H
            obtain ⟨Ao18, co18, eo18⟩ := Kd.R_slice HO_5.out
            subst eo18
            try go_wp2
            replace HO_5 := Aside0.mk (Kd.R_drew HO_5.out)
            replace HB := Aside0.mk (below_drew1 HB.out)
            have p243 : 0 ≤ (x8_3 : Int) := od_
            have q243 : x8_3 < (l0.length : Int) := od_
            obtain ⟨ad243, e243, hx243_0, hx243_1, hx243_2, hx243_3, hx243_4, hx243_5, hx243_6, hx243_7, hx243_8, hx243_9⟩ := at_T46 HR0.out x8_3 p243 q243
            have hw243_9 := hx243_9
            have hw243_8 := hx243_8
            have hw243_7 := hx243_7
            have hw243_6 := hx243_6
            have hw243_5 := hx243_5
            have hw243_4 := hx243_4
            have hw243_3 := hx243_3
            have hw243_2 := hx243_2
            have hw243_1 := hx243_1
            have hw243_0 := hx243_0
            cases e243
            replace hx243_0 := cb_ HB hx243_0
            replace hx243_1 := cb_ HB hx243_1
            replace hx243_2 := cb_ HB hx243_2
            replace hx243_3 := cb_ HB hx243_3
            replace hx243_4 := cb_ HB hx243_4
            replace hx243_5 := cb_ HB hx243_5
            replace hx243_6 := cb_ HB hx243_6
            replace hx243_7 := cb_ HB hx243_7
            replace hx243_8 := cb_ HB hx243_8
            replace hx243_9 := cb_ HB hx243_9
            replace p243 := eq_true p243
            replace q243 := eq_true q243
            have p244 : 0 ≤ (x7_2 : Int) := od_
            have q244 : x7_2 < (l1.length : Int) := od_
            obtain ⟨ad244, e244, hx244_0, hx244_1, hx244_2⟩ := at_T29 HR1.out x7_2 p244 q244
            have hw244_2 := hx244_2
            have hw244_1 := hx244_1
            have hw244_0 := hx244_0
            cases e244
            replace hx244_0 := cb_ HB hx244_0
            replace hx244_1 := cb_ HB hx244_1
            replace hx244_2 := cb_ HB hx244_2
            replace p244 := eq_true p244
            replace q244 := eq_true q244
            refine start_ (n := 13) (S := fun w' => w'.cell? (ad243.add ((x8_3).toNat * 10)) = some (.int .i64 ((rd_T46 l0 x8_3).f0)) ∧ w'.cell? ⟨(ad243.add ((x8_3).toNat * 10)).block, (ad243.add ((x8_3).toNat * 10)).off + 1, none⟩ = some (.int .i64 ((rd_T46 l0 x8_3).f1.f0)) ∧ w'.cell? ⟨(ad243.add ((x8_3).toNat * 10)).block, (ad243.add ((x8_3).toNat * 10)).off + 2, none⟩ = some (.int .i64 ((rd_T46 l0 x8_3).f1.f1)) ∧ w'.cell? ⟨(ad243.add ((x8_3).toNat * 10)).block, (ad243.add ((x8_3).toNat * 10)).off + 3, none⟩ = some (.int .i64 ((rd_T46 l0 x8_3).f2)) ∧ w'.cell? ⟨(ad243.add ((x8_3).toNat * 10)).block, (ad243.add ((x8_3).toNat * 10)).off + 4, none⟩ = some (.int .i64 ((rd_T46 l0 x8_3).f3.f0)) ∧ w'.cell? ⟨(ad243.add ((x8_3).toNat * 10)).block, (ad243.add ((x8_3).toNat * 10)).off + 5, none⟩ = some (.int .i64 ((rd_T46 l0 x8_3).f3.f1)) ∧ w'.cell? ⟨(ad243.add ((x8_3).toNat * 10)).block, (ad243.add ((x8_3).toNat * 10)).off + 6, none⟩ = some (.int .i64 ((rd_T46 l0 x8_3).f4.f0)) ∧ w'.cell? ⟨(ad243.add ((x8_3).toNat * 10)).block, (ad243.add ((x8_3).toNat * 10)).off + 7, none⟩ = some (.int .i64 ((rd_T46 l0 x8_3).f4.f1)) ∧ w'.cell? ⟨(ad243.add ((x8_3).toNat * 10)).block, (ad243.add ((x8_3).toNat * 10)).off + 8, none⟩ = some (.int .i64 ((rd_T46 l0 x8_3).f5)) ∧ w'.cell? ⟨(ad243.add ((x8_3).toNat * 10)).block, (ad243.add ((x8_3).toNat * 10)).off + 9, none⟩ = some (.int .i64 ((rd_T46 l0 x8_3).f6)) ∧ w'.cell? (ad244.add ((x7_2).toNat * 3)) = some (.int .i64 ((rd_T29 l1 x7_2).f0.f0)) ∧ w'.cell? ⟨(ad244.add ((x7_2).toNat * 3)).block, (ad244.add ((x7_2).toNat * 3)).off + 1, none⟩ = some (.int .i64 ((rd_T29 l1 x7_2).f0.f1)) ∧ w'.cell? ⟨(ad244.add ((x7_2).toNat * 3)).block, (ad244.add ((x7_2).toNat * 3)).off + 2, none⟩ = some (.int .i64 ((rd_T29 l1 x7_2).f1))) (ds := []) #[false, false, false, false, false, false, false, false, false, false, false, false, false] (by kernel_rfl) rfl rfl ⟨(cb_ HB hw243_0 :), (cb_ HB hw243_1 :), (cb_ HB hw243_2 :), (cb_ HB hw243_3 :), (cb_ HB hw243_4 :), (cb_ HB hw243_5 :), (cb_ HB hw243_6 :), (cb_ HB hw243_7 :), (cb_ HB hw243_8 :), (cb_ HB hw243_9 :), (cb_ HB hw244_0 :), (cb_ HB hw244_1 :), (cb_ HB hw244_2 :)⟩ (fun hHeld => ?_); refine with_tabW spec_l19Sizes.tab11 spec_l19Sizes.bits11 (fun HT_ HW_ => ?_)
            generalize wr.drew = w19 at HO_5 HB hx243_0 hx243_1 hx243_2 hx243_3 hx243_4 hx243_5 hx243_6 hx243_7 hx243_8 hx243_9 hx244_0 hx244_1 hx244_2 hHeld ⊢
            refine pureZ_ (i := 0) (some 26) #[true, false, false, false, false, false, false, false, false, false, false, false, false] (any_of HT_.out (by kernel_rfl)) ?_
            refine pureZ_ (i := 1) (some 27) #[true, true, false, false, false, false, false, false, false, false, false, false, false] (any_of HT_.out (by kernel_rfl)) ?_
            refine pureZ_ (i := 2) (some 28) #[true, true, true, false, false, false, false, false, false, false, false, false, false] (any_of HT_.out (by kernel_rfl)) ?_
            refine pureZ_ (i := 3) (some 29) #[true, true, true, true, false, false, false, false, false, false, false, false, false] (any_of HT_.out (by kernel_rfl)) ?_
            refine pureZ_ (i := 4) (some 30) #[true, true, true, true, true, false, false, false, false, false, false, false, false] (any_of HT_.out (by kernel_rfl)) ?_
            refine pureZ_ (i := 6) (some 32) #[true, true, true, true, true, false, true, false, false, false, false, false, false] (any_of HT_.out (by kernel_rfl)) ?_
            refine pureZ_ (i := 7) (some 33) #[true, true, true, true, true, false, true, true, false, false, false, false, false] (any_of HT_.out (by kernel_rfl)) ?_
            refine pureZ_ (i := 8) (some 34) #[true, true, true, true, true, false, true, true, true, false, false, false, false] (any_of HT_.out (by kernel_rfl)) ?_
            refine takeZ_ (i := 5) (some 31) #[true, true, true, true, true, true, true, true, true, false, false, false, false] (take_ofW HT_.out HW_.out (by kernel_rfl)) hHeld ?_
            refine takeZ_ (i := 9) (some 35) #[true, true, true, true, true, true, true, true, true, true, false, false, false] (take_ofW HT_.out HW_.out (by kernel_rfl)) hHeld ?_
            refine join_ (σ := Value × Nat) 1 #[true, true, true, true, true, true, true, true, true, true, true, true, false] (fun s_ => [(36, .agg #[.int .i64 t245, s_.1]), (9, .pointer (some ⟨s_.2, 0, none⟩))]) (fun s_ w' => (w'.cell? (ad243.add ((x8_3).toNat * 10)) = some (.int .i64 ((rd_T46 l0 x8_3).f0)) ∧ w'.cell? ⟨(ad243.add ((x8_3).toNat * 10)).block, (ad243.add ((x8_3).toNat * 10)).off + 1, none⟩ = some (.int .i64 ((rd_T46 l0 x8_3).f1.f0)) ∧ w'.cell? ⟨(ad243.add ((x8_3).toNat * 10)).block, (ad243.add ((x8_3).toNat * 10)).off + 2, none⟩ = some (.int .i64 ((rd_T46 l0 x8_3).f1.f1)) ∧ w'.cell? ⟨(ad243.add ((x8_3).toNat * 10)).block, (ad243.add ((x8_3).toNat * 10)).off + 3, none⟩ = some (.int .i64 ((rd_T46 l0 x8_3).f2)) ∧ w'.cell? ⟨(ad243.add ((x8_3).toNat * 10)).block, (ad243.add ((x8_3).toNat * 10)).off + 4, none⟩ = some (.int .i64 ((rd_T46 l0 x8_3).f3.f0)) ∧ w'.cell? ⟨(ad243.add ((x8_3).toNat * 10)).block, (ad243.add ((x8_3).toNat * 10)).off + 5, none⟩ = some (.int .i64 ((rd_T46 l0 x8_3).f3.f1)) ∧ w'.cell? ⟨(ad243.add ((x8_3).toNat * 10)).block, (ad243.add ((x8_3).toNat * 10)).off + 6, none⟩ = some (.int .i64 ((rd_T46 l0 x8_3).f4.f0)) ∧ w'.cell? ⟨(ad243.add ((x8_3).toNat * 10)).block, (ad243.add ((x8_3).toNat * 10)).off + 7, none⟩ = some (.int .i64 ((rd_T46 l0 x8_3).f4.f1)) ∧ w'.cell? ⟨(ad243.add ((x8_3).toNat * 10)).block, (ad243.add ((x8_3).toNat * 10)).off + 8, none⟩ = some (.int .i64 ((rd_T46 l0 x8_3).f5)) ∧ w'.cell? ⟨(ad243.add ((x8_3).toNat * 10)).block, (ad243.add ((x8_3).toNat * 10)).off + 9, none⟩ = some (.int .i64 ((rd_T46 l0 x8_3).f6)) ∧ w'.cell? (ad244.add ((x7_2).toNat * 3)) = some (.int .i64 ((rd_T29 l1 x7_2).f0.f0)) ∧ w'.cell? ⟨(ad244.add ((x7_2).toNat * 3)).block, (ad244.add ((x7_2).toNat * 3)).off + 1, none⟩ = some (.int .i64 ((rd_T29 l1 x7_2).f0.f1)) ∧ w'.cell? ⟨(ad244.add ((x7_2).toNat * 3)).block, (ad244.add ((x7_2).toNat * 3)).off + 2, none⟩ = some (.int .i64 ((rd_T29 l1 x7_2).f1))) ∧ (Kd.R (Kd.int .i64) 3 w' w.heap.size (fun k_ => some k_ ≠ (.slice Ao18 x5_3.length co18 : Value).ownBlock) s_.1 t246) ∧ (Kd.R (Kd.int .i64) 3 w' w.heap.size (fun k_ => some k_ ≠ (s_.1 : Value).ownBlock) (.slice Ao18 x5_3.length co18) x5_3) ∧ (w'.heap[s_.2]? = some (.cells #[.int .i64 0, .slice none 0 0] 167 (0, 0))) ∧ (w.heap.size ≤ s_.2) ∧ (w.heap.size ≤ s_.2) ∧ (Below w.heap.size w w')) ?_ ?_
            rotate_left
            ·intro hCont
             refine two_ (i := 10) (j := 11) (Ni := some 36) (Nj := some 9) #[true, true, true, true, true, true, true, true, true, true, true, false, false] #[true, true, true, true, true, true, true, true, true, true, false, true, false] rfl rfl rfl rfl (two_of HT_.out (by kernel_rfl)) (by decide) (by decide) (fun K hK => ?_) (fun K hK => ?_)
             ·skip
              refine goes_ Try.func142 (by kernel_rfl) rfl #[.slice (some ad244) l1.length c1, .slice Ao18 x5_3.length co18, .agg #[.int .i64 ((rd_T46 l0 x8_3).f0), .int .i64 ((rd_T46 l0 x8_3).f1.f0), .int .i64 ((rd_T46 l0 x8_3).f1.f1), .int .i64 ((rd_T46 l0 x8_3).f2), .int .i64 ((rd_T46 l0 x8_3).f3.f0), .int .i64 ((rd_T46 l0 x8_3).f3.f1), .int .i64 ((rd_T46 l0 x8_3).f4.f0), .int .i64 ((rd_T46 l0 x8_3).f4.f1), .int .i64 ((rd_T46 l0 x8_3).f5), .int .i64 ((rd_T46 l0 x8_3).f6)], .agg #[.int .i64 ((rd_T29 l1 x7_2).f0.f0), .int .i64 ((rd_T29 l1 x7_2).f0.f1), .int .i64 ((rd_T29 l1 x7_2).f1)]] (by rfl) rfl rfl (by (try simp only [List.map_toArray, List.map_cons, List.map_nil]); first | done | rfl | (simp only [List.length_drop, List.length_take]; rfl)) ?_
              with_reducible refine (spec_l19By.calls k3 _ _ l1 _ _ x5_3 ((rd_T46 l0 x8_3).f0) ((rd_T46 l0 x8_3).f1.f0) ((rd_T46 l0 x8_3).f1.f1) ((rd_T46 l0 x8_3).f2) ((rd_T46 l0 x8_3).f3.f0) ((rd_T46 l0 x8_3).f3.f1) ((rd_T46 l0 x8_3).f4.f0) ((rd_T46 l0 x8_3).f4.f1) ((rd_T46 l0 x8_3).f5) ((rd_T46 l0 x8_3).f6) ((rd_T29 l1 x7_2).f0.f0) ((rd_T29 l1 x7_2).f0.f1) ((rd_T29 l1 x7_2).f1) t245 t246 _ ?side1 ?side2 ?side3 ?side4 A13.out).mono ?_
              (case side1 => repeat (first | exact (Kd.C_below HR1.out HB.out) | (with_reducible refine Kd.C_alloc ?_ _) | (with_reducible refine Kd.C_drewN ?_ _) | (with_reducible refine Kd.C_drew ?_)))
              (case side2 => exact HC1.out)
              (case side3 => repeat (first | exact (Kd.R_reads' HO_5.out).2.2 | (with_reducible refine Kd.C_alloc ?_ _) | (with_reducible refine Kd.C_drewN ?_ _) | (with_reducible refine Kd.C_drew ?_)))
              (case side4 => exact (Kd.R_reads' HO_5.out).2.1)
              rintro e w20 ⟨v247, rfl, ho0, hb⟩
              refine ⟨_, rfl, ?_⟩
              have HO248 := Aside0.mk (Kd.R_lower (Kd.R_new' ho0 (Kd.R_lt (by (with_reducible repeat (first | apply Kd.R_alloc | apply Kd.R_drewN | apply Kd.R_drew)); exact HO_5.out))) bls_)
              replace HO_5 := Aside0.mk (Kd.R_elder' (by (with_reducible repeat (first | apply Kd.R_alloc | apply Kd.R_drewN | apply Kd.R_drew)); exact HO_5.out) (Kd.R_base ho0) hb)
              replace HB := hbs_ hb
              (try clear hb)
              (try clear hb2)
              (try clear hk)
              (try clear hi)
              (try clear ho0)
              refine hK.out _ _ ⟨(cb_ HB hw243_0 :), (cb_ HB hw243_1 :), (cb_ HB hw243_2 :), (cb_ HB hw243_3 :), (cb_ HB hw243_4 :), (cb_ HB hw243_5 :), (cb_ HB hw243_6 :), (cb_ HB hw243_7 :), (cb_ HB hw243_8 :), (cb_ HB hw243_9 :), (cb_ HB hw244_0 :), (cb_ HB hw244_1 :), (cb_ HB hw244_2 :)⟩ (fun hHeld => ?_)
              clear hK K
              refine norm_ (a' := ?_) ?_ ?_
              rotate_left
              ·show Act.put _ (some 36) _ = _
               simp only [Act.put, List.setIfInBounds_toArray, List.set_cons_zero, List.set_cons_succ, i64_w, i32_w]
               rfl
              refine one_ (i := 11) (N := some 9) #[true, true, true, true, true, true, true, true, true, true, true, true, false] rfl rfl (one_of HT_.out (by kernel_rfl)) (by decide) (fun K hK => ?_)
              refine box_step ?hg (N := 9) ?hd (cs := #[.int .i64 0, .slice none 0 0]) (t := 167) ?hr ?_; (case hd => rfl); (case hg => rfl); (case hr => first | (go_simp; done) | (go_simp; rfl))
              intro gb249 hg w21 hbox hb
              replace HO_5 := hob_ HO_5 hb
              replace HO248 := hob_ HO248 hb
              have BK249 := Aside0.mk (hbox)
              have GW249 := gs_ hg
              have GE249 := gs_ hg
              replace HB := hbs_ hb
              clear hb hbox hg
              refine hK.out _ _ ⟨(cb_ HB hw243_0 :), (cb_ HB hw243_1 :), (cb_ HB hw243_2 :), (cb_ HB hw243_3 :), (cb_ HB hw243_4 :), (cb_ HB hw243_5 :), (cb_ HB hw243_6 :), (cb_ HB hw243_7 :), (cb_ HB hw243_8 :), (cb_ HB hw243_9 :), (cb_ HB hw244_0 :), (cb_ HB hw244_1 :), (cb_ HB hw244_2 :)⟩ (fun hHeld => ?_)
              clear hK K
              refine norm_ (a' := ?_) ?_ ?_
              rotate_left
              ·show Act.put _ (some 9) _ = _
               simp only [Act.put, List.setIfInBounds_toArray, List.set_cons_zero, List.set_cons_succ, i64_w, i32_w]
               rfl
              exact norm_ (by simp only [putAll, Act.put, List.setIfInBounds_toArray, List.set_cons_zero, List.set_cons_succ]) (hCont (v247, gb249) _ ⟨hHeld, (by (with_reducible repeat (first | apply Kd.R_alloc | apply Kd.R_drewN | apply Kd.R_drew)); exact Kd.R_mono HO248.out (fun _ hk => hk.2)), (by (with_reducible repeat (first | apply Kd.R_alloc | apply Kd.R_drewN | apply Kd.R_drew)); exact Kd.R_mono HO_5.out (fun _ hk => hk.2)), (bk_ BK249), GW249.out, GE249.out, bl_⟩)
             ·skip
              refine box_step ?hg (N := 9) ?hd (cs := #[.int .i64 0, .slice none 0 0]) (t := 167) ?hr ?_; (case hd => rfl); (case hg => rfl); (case hr => first | (go_simp; done) | (go_simp; rfl))
              intro gb249 hg w20 hbox hb
              replace HO_5 := hob_ HO_5 hb
              have BK249 := Aside0.mk (hbox)
              have GW249 := gs_ hg
              have GE249 := gs_ hg
              replace HB := hbs_ hb
              clear hb hbox hg
              refine hK.out _ _ ⟨(cb_ HB hw243_0 :), (cb_ HB hw243_1 :), (cb_ HB hw243_2 :), (cb_ HB hw243_3 :), (cb_ HB hw243_4 :), (cb_ HB hw243_5 :), (cb_ HB hw243_6 :), (cb_ HB hw243_7 :), (cb_ HB hw243_8 :), (cb_ HB hw243_9 :), (cb_ HB hw244_0 :), (cb_ HB hw244_1 :), (cb_ HB hw244_2 :)⟩ (fun hHeld => ?_)
              clear hK K
              refine norm_ (a' := ?_) ?_ ?_
              rotate_left
              ·show Act.put _ (some 9) _ = _
               simp only [Act.put, List.setIfInBounds_toArray, List.set_cons_zero, List.set_cons_succ, i64_w, i32_w]
               rfl
              refine one_ (i := 10) (N := some 36) #[true, true, true, true, true, true, true, true, true, true, true, true, false] rfl rfl (one_of HT_.out (by kernel_rfl)) (by decide) (fun K hK => ?_)
              refine goes_ Try.func142 (by kernel_rfl) rfl #[.slice (some ad244) l1.length c1, .slice Ao18 x5_3.length co18, .agg #[.int .i64 ((rd_T46 l0 x8_3).f0), .int .i64 ((rd_T46 l0 x8_3).f1.f0), .int .i64 ((rd_T46 l0 x8_3).f1.f1), .int .i64 ((rd_T46 l0 x8_3).f2), .int .i64 ((rd_T46 l0 x8_3).f3.f0), .int .i64 ((rd_T46 l0 x8_3).f3.f1), .int .i64 ((rd_T46 l0 x8_3).f4.f0), .int .i64 ((rd_T46 l0 x8_3).f4.f1), .int .i64 ((rd_T46 l0 x8_3).f5), .int .i64 ((rd_T46 l0 x8_3).f6)], .agg #[.int .i64 ((rd_T29 l1 x7_2).f0.f0), .int .i64 ((rd_T29 l1 x7_2).f0.f1), .int .i64 ((rd_T29 l1 x7_2).f1)]] (by rfl) rfl rfl (by (try simp only [List.map_toArray, List.map_cons, List.map_nil]); first | done | rfl | (simp only [List.length_drop, List.length_take]; rfl)) ?_
              with_reducible refine (spec_l19By.calls k3 _ _ l1 _ _ x5_3 ((rd_T46 l0 x8_3).f0) ((rd_T46 l0 x8_3).f1.f0) ((rd_T46 l0 x8_3).f1.f1) ((rd_T46 l0 x8_3).f2) ((rd_T46 l0 x8_3).f3.f0) ((rd_T46 l0 x8_3).f3.f1) ((rd_T46 l0 x8_3).f4.f0) ((rd_T46 l0 x8_3).f4.f1) ((rd_T46 l0 x8_3).f5) ((rd_T46 l0 x8_3).f6) ((rd_T29 l1 x7_2).f0.f0) ((rd_T29 l1 x7_2).f0.f1) ((rd_T29 l1 x7_2).f1) t245 t246 _ ?side1 ?side2 ?side3 ?side4 A13.out).mono ?_
              (case side1 => repeat (first | exact (Kd.C_below HR1.out HB.out) | (with_reducible refine Kd.C_alloc ?_ _) | (with_reducible refine Kd.C_drewN ?_ _) | (with_reducible refine Kd.C_drew ?_)))
              (case side2 => exact HC1.out)
              (case side3 => repeat (first | exact (Kd.R_reads' HO_5.out).2.2 | (with_reducible refine Kd.C_alloc ?_ _) | (with_reducible refine Kd.C_drewN ?_ _) | (with_reducible refine Kd.C_drew ?_)))
              (case side4 => exact (Kd.R_reads' HO_5.out).2.1)
              rintro e w21 ⟨v247, rfl, ho0, hb⟩
              refine ⟨_, rfl, ?_⟩
              have HO248 := Aside0.mk (Kd.R_lower (Kd.R_new' ho0 (Kd.R_lt (by (with_reducible repeat (first | apply Kd.R_alloc | apply Kd.R_drewN | apply Kd.R_drew)); exact HO_5.out))) bls_)
              replace HO_5 := Aside0.mk (Kd.R_elder' (by (with_reducible repeat (first | apply Kd.R_alloc | apply Kd.R_drewN | apply Kd.R_drew)); exact HO_5.out) (Kd.R_base ho0) hb)
              replace BK249 := bkb_ BK249 hb
              replace HB := hbs_ hb
              (try clear hb)
              (try clear hb2)
              (try clear hk)
              (try clear hi)
              (try clear ho0)
              refine hK.out _ _ ⟨(cb_ HB hw243_0 :), (cb_ HB hw243_1 :), (cb_ HB hw243_2 :), (cb_ HB hw243_3 :), (cb_ HB hw243_4 :), (cb_ HB hw243_5 :), (cb_ HB hw243_6 :), (cb_ HB hw243_7 :), (cb_ HB hw243_8 :), (cb_ HB hw243_9 :), (cb_ HB hw244_0 :), (cb_ HB hw244_1 :), (cb_ HB hw244_2 :)⟩ (fun hHeld => ?_)
              clear hK K
              refine norm_ (a' := ?_) ?_ ?_
              rotate_left
              ·show Act.put _ (some 36) _ = _
               simp only [Act.put, List.setIfInBounds_toArray, List.set_cons_zero, List.set_cons_succ, i64_w, i32_w]
               rfl
              exact norm_ (by simp only [putAll, Act.put, List.setIfInBounds_toArray, List.set_cons_zero, List.set_cons_succ]) (hCont (v247, gb249) _ ⟨hHeld, (by (with_reducible repeat (first | apply Kd.R_alloc | apply Kd.R_drewN | apply Kd.R_drew)); exact Kd.R_mono HO248.out (fun _ hk => hk.2)), (by (with_reducible repeat (first | apply Kd.R_alloc | apply Kd.R_drewN | apply Kd.R_drew)); exact Kd.R_mono HO_5.out (fun _ hk => hk.2)), (bk_ BK249), GW249.out, GE249.out, bl_⟩)
            rintro ⟨v247, gb249⟩ w22 ⟨hS_, h0_, h1_, h2_, h3_, h4_, h5_⟩
            have n0_ : Aside0 (Kd.R (Kd.int .i64) 3 w22 w.heap.size (fun k_ => some k_ ≠ (.slice Ao18 x5_3.length co18 : Value).ownBlock) v247 t246) := ⟨h0_⟩
            have n1_ : Aside0 (Kd.R (Kd.int .i64) 3 w22 w.heap.size (fun k_ => some k_ ≠ (v247 : Value).ownBlock) (.slice Ao18 x5_3.length co18) x5_3) := ⟨h1_⟩
            have n2_ : Aside0 (w22.heap[gb249]? = some (.cells #[.int .i64 0, .slice none 0 0] 167 (0, 0))) := ⟨h2_⟩
            have n3_ : Aside0 (w.heap.size ≤ gb249) := ⟨h3_⟩
            have n4_ : Aside0 (w.heap.size ≤ gb249) := ⟨h4_⟩
            have n5_ : Aside0 (Below w.heap.size w w22) := ⟨h5_⟩
            clear HO_5
            clear HB
            clear h0_ h1_ h2_ h3_ h4_ h5_
            have HO248 := n0_
            have HO_5 := n1_
            have BK249 := n2_
            have GW249 := n3_
            have GE249 := n4_
            have HB := n5_
            clear n0_ n1_ n2_ n3_ n4_ n5_
            have hHeld : w22.cell? (ad243.add ((x8_3).toNat * 10)) = some (.int .i64 ((rd_T46 l0 x8_3).f0)) ∧ w22.cell? ⟨(ad243.add ((x8_3).toNat * 10)).block, (ad243.add ((x8_3).toNat * 10)).off + 1, none⟩ = some (.int .i64 ((rd_T46 l0 x8_3).f1.f0)) ∧ w22.cell? ⟨(ad243.add ((x8_3).toNat * 10)).block, (ad243.add ((x8_3).toNat * 10)).off + 2, none⟩ = some (.int .i64 ((rd_T46 l0 x8_3).f1.f1)) ∧ w22.cell? ⟨(ad243.add ((x8_3).toNat * 10)).block, (ad243.add ((x8_3).toNat * 10)).off + 3, none⟩ = some (.int .i64 ((rd_T46 l0 x8_3).f2)) ∧ w22.cell? ⟨(ad243.add ((x8_3).toNat * 10)).block, (ad243.add ((x8_3).toNat * 10)).off + 4, none⟩ = some (.int .i64 ((rd_T46 l0 x8_3).f3.f0)) ∧ w22.cell? ⟨(ad243.add ((x8_3).toNat * 10)).block, (ad243.add ((x8_3).toNat * 10)).off + 5, none⟩ = some (.int .i64 ((rd_T46 l0 x8_3).f3.f1)) ∧ w22.cell? ⟨(ad243.add ((x8_3).toNat * 10)).block, (ad243.add ((x8_3).toNat * 10)).off + 6, none⟩ = some (.int .i64 ((rd_T46 l0 x8_3).f4.f0)) ∧ w22.cell? ⟨(ad243.add ((x8_3).toNat * 10)).block, (ad243.add ((x8_3).toNat * 10)).off + 7, none⟩ = some (.int .i64 ((rd_T46 l0 x8_3).f4.f1)) ∧ w22.cell? ⟨(ad243.add ((x8_3).toNat * 10)).block, (ad243.add ((x8_3).toNat * 10)).off + 8, none⟩ = some (.int .i64 ((rd_T46 l0 x8_3).f5)) ∧ w22.cell? ⟨(ad243.add ((x8_3).toNat * 10)).block, (ad243.add ((x8_3).toNat * 10)).off + 9, none⟩ = some (.int .i64 ((rd_T46 l0 x8_3).f6)) ∧ w22.cell? (ad244.add ((x7_2).toNat * 3)) = some (.int .i64 ((rd_T29 l1 x7_2).f0.f0)) ∧ w22.cell? ⟨(ad244.add ((x7_2).toNat * 3)).block, (ad244.add ((x7_2).toNat * 3)).off + 1, none⟩ = some (.int .i64 ((rd_T29 l1 x7_2).f0.f1)) ∧ w22.cell? ⟨(ad244.add ((x7_2).toNat * 3)).block, (ad244.add ((x7_2).toNat * 3)).off + 2, none⟩ = some (.int .i64 ((rd_T29 l1 x7_2).f1)) := hS_
            obtain ⟨Ao24, co24, eo24⟩ := Kd.R_slice HO248.out
            (first | subst eo24 | (injection eo24 with f1_ f2_ f3_; have f4_ := f1_.symm; have f5_ := f3_.symm; clear f1_ f2_ f3_; subst f4_; subst f5_))
            refine norm_ (a' := ?_) ?_ ?_
            rotate_left
            ·simp only [putAll, Act.put, List.setIfInBounds_toArray, List.set_cons_zero, List.set_cons_succ]
             rfl
            refine one_ (i := 12) (N := none) #[true, true, true, true, true, true, true, true, true, true, true, true, true] rfl rfl (one_of HT_.out (by kernel_rfl)) (by decide) (fun K hK => ?_)
            have hs23 : w22.cell? ⟨gb249, 0, none⟩ = some (.int .i64 0) := (blk_cell BK249.out 0).trans rfl
            have hfs23 := blk_frozen BK249.out 0
            have hs25 : w22.cell? ⟨gb249, 1, none⟩ = some (.slice none 0 0) := (blk_cell BK249.out 1).trans rfl
            have hfs25 := blk_frozen BK249.out 1
            refine skip_ (w1 := ?_) (by rfl) rfl ?_ ?_
            rotate_left
            ·go_simp
             rfl
            refine hK.out _ _ ⟨((cell_far (p := ⟨gb249, _, none⟩) (fb_ hw243_0 GW249.out) _).trans (((cell_far (p := ⟨gb249, _, none⟩) (fb_ hw243_0 GW249.out) _).trans (hHeld.1)))), ((cell_far (p := ⟨gb249, _, none⟩) (fb_ hw243_1 GW249.out) _).trans (((cell_far (p := ⟨gb249, _, none⟩) (fb_ hw243_1 GW249.out) _).trans (hHeld.2.1)))), ((cell_far (p := ⟨gb249, _, none⟩) (fb_ hw243_2 GW249.out) _).trans (((cell_far (p := ⟨gb249, _, none⟩) (fb_ hw243_2 GW249.out) _).trans (hHeld.2.2.1)))), ((cell_far (p := ⟨gb249, _, none⟩) (fb_ hw243_3 GW249.out) _).trans (((cell_far (p := ⟨gb249, _, none⟩) (fb_ hw243_3 GW249.out) _).trans (hHeld.2.2.2.1)))), ((cell_far (p := ⟨gb249, _, none⟩) (fb_ hw243_4 GW249.out) _).trans (((cell_far (p := ⟨gb249, _, none⟩) (fb_ hw243_4 GW249.out) _).trans (hHeld.2.2.2.2.1)))), ((cell_far (p := ⟨gb249, _, none⟩) (fb_ hw243_5 GW249.out) _).trans (((cell_far (p := ⟨gb249, _, none⟩) (fb_ hw243_5 GW249.out) _).trans (hHeld.2.2.2.2.2.1)))), ((cell_far (p := ⟨gb249, _, none⟩) (fb_ hw243_6 GW249.out) _).trans (((cell_far (p := ⟨gb249, _, none⟩) (fb_ hw243_6 GW249.out) _).trans (hHeld.2.2.2.2.2.2.1)))), ((cell_far (p := ⟨gb249, _, none⟩) (fb_ hw243_7 GW249.out) _).trans (((cell_far (p := ⟨gb249, _, none⟩) (fb_ hw243_7 GW249.out) _).trans (hHeld.2.2.2.2.2.2.2.1)))), ((cell_far (p := ⟨gb249, _, none⟩) (fb_ hw243_8 GW249.out) _).trans (((cell_far (p := ⟨gb249, _, none⟩) (fb_ hw243_8 GW249.out) _).trans (hHeld.2.2.2.2.2.2.2.2.1)))), ((cell_far (p := ⟨gb249, _, none⟩) (fb_ hw243_9 GW249.out) _).trans (((cell_far (p := ⟨gb249, _, none⟩) (fb_ hw243_9 GW249.out) _).trans (hHeld.2.2.2.2.2.2.2.2.2.1)))), ((cell_far (p := ⟨gb249, _, none⟩) (fb_ hw244_0 GW249.out) _).trans (((cell_far (p := ⟨gb249, _, none⟩) (fb_ hw244_0 GW249.out) _).trans (hHeld.2.2.2.2.2.2.2.2.2.2.1)))), ((cell_far (p := ⟨gb249, _, none⟩) (fb_ hw244_1 GW249.out) _).trans (((cell_far (p := ⟨gb249, _, none⟩) (fb_ hw244_1 GW249.out) _).trans (hHeld.2.2.2.2.2.2.2.2.2.2.2.1)))), ((cell_far (p := ⟨gb249, _, none⟩) (fb_ hw244_2 GW249.out) _).trans (((cell_far (p := ⟨gb249, _, none⟩) (fb_ hw244_2 GW249.out) _).trans (hHeld.2.2.2.2.2.2.2.2.2.2.2.2))))⟩ (fun hHeld => ?_)
            clear hK K
            refine done_ (done_of HT_.out (by kernel_rfl)) ?_
            try go_wp2
            have n0_ : Aside0 (Kd.R (Kd.int .i64) 3 ((w22.setCell ⟨gb249, 0, none⟩ (.int .i64 t245)).setCell ⟨gb249, 1, none⟩ (.slice Ao24 t246.length co24)) w.heap.size (fun k_ => some k_ ≠ (.slice Ao24 t246.length co24 : Value).ownBlock) (.slice Ao18 x5_3.length co18) x5_3) := ⟨by (with_reducible repeat (first | apply Kd.R_alloc | apply Kd.R_drewN | apply Kd.R_drew)); exact Kd.R_mono (Kd.R_far (p := ⟨gb249, 1, none⟩) (Kd.R_far (p := ⟨gb249, 0, none⟩) (Kd.R_types HO_5.out BK249.out (by decide)) (fun _ hk => hk.2) (.int .i64 t245)) (fun _ hk => hk.2) (.slice Ao24 t246.length co24)) (fun _ hk => hk.1)⟩
            have n1_ : Aside0 (Kd.R (Kd.int .i64) 3 ((w22.setCell ⟨gb249, 0, none⟩ (.int .i64 t245)).setCell ⟨gb249, 1, none⟩ (.slice Ao24 t246.length co24)) w.heap.size (fun k_ => some k_ ≠ (.slice Ao18 x5_3.length co18 : Value).ownBlock) (.slice Ao24 t246.length co24) t246) := ⟨by (with_reducible repeat (first | apply Kd.R_alloc | apply Kd.R_drewN | apply Kd.R_drew)); exact Kd.R_mono (Kd.R_far (p := ⟨gb249, 1, none⟩) (Kd.R_far (p := ⟨gb249, 0, none⟩) (Kd.R_types HO248.out BK249.out (by decide)) (fun _ hk => hk.2) (.int .i64 t245)) (fun _ hk => hk.2) (.slice Ao24 t246.length co24)) (fun _ hk => hk.1)⟩
            have n2_ : Aside0 (((w22.setCell ⟨gb249, 0, none⟩ (.int .i64 t245)).setCell ⟨gb249, 1, none⟩ (.slice Ao24 t246.length co24)).heap[gb249]? = some (.cells #[.int .i64 t245, .slice Ao24 t246.length co24] 167 (0, 0))) := ⟨bk_ BK249⟩
            have n3_ : Aside0 (Below w.heap.size w ((w22.setCell ⟨gb249, 0, none⟩ (.int .i64 t245)).setCell ⟨gb249, 1, none⟩ (.slice Ao24 t246.length co24))) := ⟨bl_⟩
            (try clear HO_5)
            (try clear HO248)
            (try clear BK249)
            (try clear HB)
            generalize ((w22.setCell ⟨gb249, 0, none⟩ (.int .i64 t245)).setCell ⟨gb249, 1, none⟩ (.slice Ao24 t246.length co24)) = w26 at n0_ n1_ n2_ n3_ ⊢
            have HO_5 := n0_
            have HO248 := n1_
            have BK249 := n2_
            have HB := n3_
            clear n0_ n1_ n2_ n3_
            replace HO_5 := Aside0.mk (Kd.R_drew HO_5.out)
            replace HO248 := Aside0.mk (Kd.R_drew HO248.out)
            replace BK249 := Aside0.mk (blk_drew BK249.out)
            replace HB := Aside0.mk (below_drew1 HB.out)
            have p250 : 0 ≤ (x7_2 : Int) := od_
            have q250 : x7_2 < (x5_3.length : Int) := od_
            obtain ⟨ad250, e250, hx250_0⟩ := Kd.at_int (Kd.R_reads' HO_5.out).2.2 x7_2 p250 q250
            cases e250
            replace p250 := eq_true p250
            replace q250 := eq_true q250
            refine start_ (n := 19) (S := fun w' => w'.cell? ⟨gb249, 0, none⟩ = some (.int .i64 t245) ∧ w'.cell? ⟨gb249, 1, none⟩ = some (.slice Ao24 t246.length co24) ∧ w'.cell? (ad250.add (x7_2).toNat) = some (.int .i64 (rd x5_3 x7_2))) (ds := []) #[false, false, false, false, false, false, false, false, false, false, false, false, false, false, false, false, false, false, false] (by kernel_rfl) rfl rfl ⟨(blk_cell BK249.out 0).trans rfl, (blk_cell BK249.out 1).trans rfl, hx250_0⟩ (fun hHeld => ?_); refine with_tabW spec_l19Sizes.tab12 spec_l19Sizes.bits12 (fun HT_ HW_ => ?_)
            generalize w26.drew = w27 at HO_5 HO248 BK249 HB hx250_0 hHeld ⊢
            refine pureZ_ (i := 0) (some 37) #[true, false, false, false, false, false, false, false, false, false, false, false, false, false, false, false, false, false, false] (any_of HT_.out (by kernel_rfl)) ?_
            refine takeZ_ (i := 1) (some 38) #[true, true, false, false, false, false, false, false, false, false, false, false, false, false, false, false, false, false, false] (take_ofW HT_.out HW_.out (by kernel_rfl)) hHeld ?_
            refine pureZ_ (i := 2) (some 39) #[true, true, true, false, false, false, false, false, false, false, false, false, false, false, false, false, false, false, false] (any_of HT_.out (by kernel_rfl)) ?_
            refine pureZ_ (i := 3) (some 40) #[true, true, true, true, false, false, false, false, false, false, false, false, false, false, false, false, false, false, false] (any_of HT_.out (by kernel_rfl)) ?_
            refine pureZ_ (i := 4) (some 41) #[true, true, true, true, true, false, false, false, false, false, false, false, false, false, false, false, false, false, false] (any_of HT_.out (by kernel_rfl)) ?_
            refine pureZ_ (i := 5) (some 42) #[true, true, true, true, true, true, false, false, false, false, false, false, false, false, false, false, false, false, false] (any_of HT_.out (by kernel_rfl)) ?_
            refine pureZ_ (i := 6) (some 43) #[true, true, true, true, true, true, true, false, false, false, false, false, false, false, false, false, false, false, false] (any_of HT_.out (by kernel_rfl)) ?_
            refine takeZ_ (i := 7) (some 44) #[true, true, true, true, true, true, true, true, false, false, false, false, false, false, false, false, false, false, false] (take_ofW HT_.out HW_.out (by kernel_rfl)) hHeld ?_
            refine pureZ_ (i := 8) (some 45) #[true, true, true, true, true, true, true, true, true, false, false, false, false, false, false, false, false, false, false] (any_of HT_.out (by kernel_rfl)) ?_
            refine pureZ_ (i := 9) (some 46) #[true, true, true, true, true, true, true, true, true, true, false, false, false, false, false, false, false, false, false] (any_of HT_.out (by kernel_rfl)) ?_
            refine pure_ (i := 10) (N := some 47) (v := undef) (a' := ?_) #[true, true, true, true, true, true, true, true, true, true, true, false, false, false, false, false, false, false, false] rfl rfl (any_of HT_.out (by kernel_rfl)) (fun _ _ _ h => h) (Or.inr ⟨by rfl, rfl⟩) ?_ ?_
            rotate_left
            ·simp only [Act.put, List.setIfInBounds_toArray, List.set_cons_zero, List.set_cons_succ, i64_w, i32_w]
             rfl
            refine pure_ (i := 11) (N := some 48) (v := undef) (a' := ?_) #[true, true, true, true, true, true, true, true, true, true, true, true, false, false, false, false, false, false, false] rfl rfl (any_of HT_.out (by kernel_rfl)) (fun _ _ _ h => h) (Or.inr ⟨by rfl, rfl⟩) ?_ ?_
            rotate_left
            ·simp only [Act.put, List.setIfInBounds_toArray, List.set_cons_zero, List.set_cons_succ, i64_w, i32_w]
             rfl
            refine pure_ (i := 12) (N := some 49) (v := undef) (a' := ?_) #[true, true, true, true, true, true, true, true, true, true, true, true, true, false, false, false, false, false, false] rfl rfl (any_of HT_.out (by kernel_rfl)) (fun _ _ _ h => h) (Or.inr ⟨by rfl, rfl⟩) ?_ ?_
            rotate_left
            ·simp only [Act.put, List.setIfInBounds_toArray, List.set_cons_zero, List.set_cons_succ, i64_w, i32_w]
             rfl
            refine pure_ (i := 13) (N := some 50) (v := undef) (a' := ?_) #[true, true, true, true, true, true, true, true, true, true, true, true, true, true, false, false, false, false, false] rfl rfl (any_of HT_.out (by kernel_rfl)) (fun _ _ _ h => h) (Or.inr ⟨by rfl, rfl⟩) ?_ ?_
            rotate_left
            ·simp only [Act.put, List.setIfInBounds_toArray, List.set_cons_zero, List.set_cons_succ, i64_w, i32_w]
             rfl
            refine pure_ (i := 14) (N := some 51) (v := undef) (a' := ?_) #[true, true, true, true, true, true, true, true, true, true, true, true, true, true, true, false, false, false, false] rfl rfl (any_of HT_.out (by kernel_rfl)) (fun _ _ _ h => h) (Or.inr ⟨by rfl, rfl⟩) ?_ ?_
            rotate_left
            ·simp only [Act.put, List.setIfInBounds_toArray, List.set_cons_zero, List.set_cons_succ, i64_w, i32_w]
             rfl
            refine pure_ (i := 15) (N := some 52) (v := undef) (a' := ?_) #[true, true, true, true, true, true, true, true, true, true, true, true, true, true, true, true, false, false, false] rfl rfl (any_of HT_.out (by kernel_rfl)) (fun _ _ _ h => h) (Or.inr ⟨by rfl, rfl⟩) ?_ ?_
            rotate_left
            ·simp only [Act.put, List.setIfInBounds_toArray, List.set_cons_zero, List.set_cons_succ, i64_w, i32_w]
             rfl
            refine pure_ (i := 16) (N := some 53) (v := undef) (a' := ?_) #[true, true, true, true, true, true, true, true, true, true, true, true, true, true, true, true, true, false, false] rfl rfl (any_of HT_.out (by kernel_rfl)) (fun _ _ _ h => h) (Or.inr ⟨by rfl, rfl⟩) ?_ ?_
            rotate_left
            ·simp only [Act.put, List.setIfInBounds_toArray, List.set_cons_zero, List.set_cons_succ, i64_w, i32_w]
             rfl
            refine pureZ_ (i := 17) (some 54) #[true, true, true, true, true, true, true, true, true, true, true, true, true, true, true, true, true, true, false] (any_of HT_.out (by kernel_rfl)) ?_
            refine pureZ_ (i := 18) (some 55) #[true, true, true, true, true, true, true, true, true, true, true, true, true, true, true, true, true, true, true] (any_of HT_.out (by kernel_rfl)) ?_
            refine done_ (done_of HT_.out (by kernel_rfl)) ?_
            have hcz28 := blk_cell BK249.out
            have hfz28 := blk_frozen BK249.out
            have p17 : 0 ≤ (x7_2 : Int) := od_
            have q17 : (x7_2 : Int) < ((x5_3.length : Int) : Int) := od_
            obtain ⟨go17, co17, eo17, gb17, gl17, cl17, HG17⟩ := Kd.R_form HO_5.out (by omega)
            (first | cases eo17 | (injection eo17 with ea_ en_ ec_; (first | subst ea_ | (injection ea_ with ea_; subst ea_)); subst ec_; clear en_))
            have GB17 := Aside0.mk gb17
            have GG17 := Aside0.mk HG17
            clear gb17 gl17 HG17
            (first | simp only [add_plain] at hx250_0 | skip)
            obtain ⟨hx17_0, hf17_0⟩ := Kd.R_celln 0 HO_5.out (x7_2 : Int) p17 q17
            replace p17 := eq_true p17
            replace q17 := eq_true q17
            obtain ⟨hy29_, hz29_⟩ := Kd.R_celln 0 HO_5.out (x7_2 : Int) (od_) (od_)
            have HP29 := Kd.R_putg HO_5.out (x7_2 : Int) t245
            try go_wp2_with (first | ((with_reducible refine gate_store (t := 3) (p := 60) rfl ?_); refine store_event (t := 3) (p := 60) (v := ?vo_w30) (w1 := (w27.setCell ⟨go17, (x7_2 : Int).toNat, none⟩ (.int .i64 t245))) ?hg ?ho ?hn ?hr ?_; (case ho => rfl); (case hg => rfl); (case hn => rfl); (case hr => first | (go_simp; done) | (go_simp; rfl)); intro w30 hw; have hg : w27.grownBy w30 (some go17) := (by rw [hw]; exact HP29.2); have hp_ : Kd.R (Kd.int .i64) 3 w30 w.heap.size (fun k_ => some k_ ≠ (.slice Ao24 t246.length co24 : Value).ownBlock) (.slice (some ⟨go17, 0, none⟩) x5_3.length co18) y251 := (by rw [hw, Ny251.out]; exact HP29.1); clear HP29; replace HO248 := Aside0.mk (Kd.R_after (v := (.slice (some ⟨go17, 0, none⟩) x5_3.length co18)) (v1 := (.slice (some ⟨go17, 0, none⟩) x5_3.length co18)) (ok := (fun _ => True)) (by (with_reducible repeat (first | apply Kd.R_alloc | apply Kd.R_drewN | apply Kd.R_drew)); exact Kd.R_mono HO248.out (fun _ hk => ⟨trivial, hk⟩)) hg (.inl rfl)); replace BK249 := Aside0.mk (blk_grown (g := gb249) (o := .cells #[.int .i64 t245, .slice Ao24 t246.length co24] 167 (0, 0)) (bk_ BK249) hg (Kd.R_ne HO_5.out BK249.out (by decide))); replace HO_5 := Aside0.mk (hp_); replace HB := Aside0.mk ((by rw [hw]; exact below_set (HB.out) GB17.out : Below w.heap.size w w30)); clear hg hw hp_))
            go_roundg k3
            case measure => have := HK1.out; have := HK2.out; have := HK3.out; omega
            case rel => exact ⟨(y251), (true), (wrap64 (x8_3 + 1)), rf_, rf_, H', ⟨by have := HK1.out; have := HK2.out; have := HK3.out; omega⟩, ⟨by (with_reducible repeat (first | apply Kd.R_alloc | apply Kd.R_drewN | apply Kd.R_drew)); exact Kd.R_mono HO_5.out (fun _ hk => trivial)⟩, ⟨bl_⟩⟩
           ·rw [if_neg c16] at H
            have c16b0 : ((rd x5_3 x7_2) == 0) = false := beq_eq_false_iff_ne.mpr c16
            have c16b1 : ((rd x5_3 x7_2) != 0) = true := bne_iff_ne.mpr c16
            by_cases c31 : t245 < (rd x5_3 x7_2)
            ·rw [if_pos c31] at H
             have c31b0 : decide (t245 < (rd x5_3 x7_2)) = true := decide_eq_true c31
             clear c31
             obtain ⟨y253, hy253⟩ : ∃ y_ : List Int, y_ = (x5_3.set (x7_2 : Int).toNat t245) := ⟨_, rfl⟩
             replace H : (spec_l19Sizes.l2 k3 l0 l1 y253 true x7_2 (wrap64 (x8_3 + 1))) = some r := by first | (rw [hy253]; with_reducible exact H) | (have H2_ := (Option.bind_some _ _).symm.trans H; rw [hy253]; with_reducible exact H2_) | (have H2_ := (Option.bind_some _ _).symm.trans H; with_reducible exact H2_) | with_reducible exact H | (rw [hy253]; exact H) | exact H
             have Ny253 := Aside0.mk hy253
             clear hy253
             have H' := Aside0.mk H
             clear H
             obtain ⟨Ao33, co33, eo33⟩ := Kd.R_slice HO_5.out
             subst eo33
             try go_wp2
             replace HO_5 := Aside0.mk (Kd.R_drew HO_5.out)
             replace HB := Aside0.mk (below_drew1 HB.out)
             have p243 : 0 ≤ (x8_3 : Int) := od_
             have q243 : x8_3 < (l0.length : Int) := od_
             obtain ⟨ad243, e243, hx243_0, hx243_1, hx243_2, hx243_3, hx243_4, hx243_5, hx243_6, hx243_7, hx243_8, hx243_9⟩ := at_T46 HR0.out x8_3 p243 q243
             have hw243_9 := hx243_9
             have hw243_8 := hx243_8
             have hw243_7 := hx243_7
             have hw243_6 := hx243_6
             have hw243_5 := hx243_5
             have hw243_4 := hx243_4
             have hw243_3 := hx243_3
             have hw243_2 := hx243_2
             have hw243_1 := hx243_1
             have hw243_0 := hx243_0
             cases e243
             replace hx243_0 := cb_ HB hx243_0
             replace hx243_1 := cb_ HB hx243_1
             replace hx243_2 := cb_ HB hx243_2
             replace hx243_3 := cb_ HB hx243_3
             replace hx243_4 := cb_ HB hx243_4
             replace hx243_5 := cb_ HB hx243_5
             replace hx243_6 := cb_ HB hx243_6
             replace hx243_7 := cb_ HB hx243_7
             replace hx243_8 := cb_ HB hx243_8
             replace hx243_9 := cb_ HB hx243_9
             replace p243 := eq_true p243
             replace q243 := eq_true q243
             have p244 : 0 ≤ (x7_2 : Int) := od_
             have q244 : x7_2 < (l1.length : Int) := od_
             obtain ⟨ad244, e244, hx244_0, hx244_1, hx244_2⟩ := at_T29 HR1.out x7_2 p244 q244
             have hw244_2 := hx244_2
             have hw244_1 := hx244_1
             have hw244_0 := hx244_0
             cases e244
             replace hx244_0 := cb_ HB hx244_0
             replace hx244_1 := cb_ HB hx244_1
             replace hx244_2 := cb_ HB hx244_2
             replace p244 := eq_true p244
             replace q244 := eq_true q244
             refine start_ (n := 13) (S := fun w' => w'.cell? (ad243.add ((x8_3).toNat * 10)) = some (.int .i64 ((rd_T46 l0 x8_3).f0)) ∧ w'.cell? ⟨(ad243.add ((x8_3).toNat * 10)).block, (ad243.add ((x8_3).toNat * 10)).off + 1, none⟩ = some (.int .i64 ((rd_T46 l0 x8_3).f1.f0)) ∧ w'.cell? ⟨(ad243.add ((x8_3).toNat * 10)).block, (ad243.add ((x8_3).toNat * 10)).off + 2, none⟩ = some (.int .i64 ((rd_T46 l0 x8_3).f1.f1)) ∧ w'.cell? ⟨(ad243.add ((x8_3).toNat * 10)).block, (ad243.add ((x8_3).toNat * 10)).off + 3, none⟩ = some (.int .i64 ((rd_T46 l0 x8_3).f2)) ∧ w'.cell? ⟨(ad243.add ((x8_3).toNat * 10)).block, (ad243.add ((x8_3).toNat * 10)).off + 4, none⟩ = some (.int .i64 ((rd_T46 l0 x8_3).f3.f0)) ∧ w'.cell? ⟨(ad243.add ((x8_3).toNat * 10)).block, (ad243.add ((x8_3).toNat * 10)).off + 5, none⟩ = some (.int .i64 ((rd_T46 l0 x8_3).f3.f1)) ∧ w'.cell? ⟨(ad243.add ((x8_3).toNat * 10)).block, (ad243.add ((x8_3).toNat * 10)).off + 6, none⟩ = some (.int .i64 ((rd_T46 l0 x8_3).f4.f0)) ∧ w'.cell? ⟨(ad243.add ((x8_3).toNat * 10)).block, (ad243.add ((x8_3).toNat * 10)).off + 7, none⟩ = some (.int .i64 ((rd_T46 l0 x8_3).f4.f1)) ∧ w'.cell? ⟨(ad243.add ((x8_3).toNat * 10)).block, (ad243.add ((x8_3).toNat * 10)).off + 8, none⟩ = some (.int .i64 ((rd_T46 l0 x8_3).f5)) ∧ w'.cell? ⟨(ad243.add ((x8_3).toNat * 10)).block, (ad243.add ((x8_3).toNat * 10)).off + 9, none⟩ = some (.int .i64 ((rd_T46 l0 x8_3).f6)) ∧ w'.cell? (ad244.add ((x7_2).toNat * 3)) = some (.int .i64 ((rd_T29 l1 x7_2).f0.f0)) ∧ w'.cell? ⟨(ad244.add ((x7_2).toNat * 3)).block, (ad244.add ((x7_2).toNat * 3)).off + 1, none⟩ = some (.int .i64 ((rd_T29 l1 x7_2).f0.f1)) ∧ w'.cell? ⟨(ad244.add ((x7_2).toNat * 3)).block, (ad244.add ((x7_2).toNat * 3)).off + 2, none⟩ = some (.int .i64 ((rd_T29 l1 x7_2).f1))) (ds := []) #[false, false, false, false, false, false, false, false, false, false, false, false, false] (by kernel_rfl) rfl rfl ⟨(cb_ HB hw243_0 :), (cb_ HB hw243_1 :), (cb_ HB hw243_2 :), (cb_ HB hw243_3 :), (cb_ HB hw243_4 :), (cb_ HB hw243_5 :), (cb_ HB hw243_6 :), (cb_ HB hw243_7 :), (cb_ HB hw243_8 :), (cb_ HB hw243_9 :), (cb_ HB hw244_0 :), (cb_ HB hw244_1 :), (cb_ HB hw244_2 :)⟩ (fun hHeld => ?_); refine with_tabW spec_l19Sizes.tab11 spec_l19Sizes.bits11 (fun HT_ HW_ => ?_)
             generalize wr.drew = w34 at HO_5 HB hx243_0 hx243_1 hx243_2 hx243_3 hx243_4 hx243_5 hx243_6 hx243_7 hx243_8 hx243_9 hx244_0 hx244_1 hx244_2 hHeld ⊢
             refine pureZ_ (i := 0) (some 26) #[true, false, false, false, false, false, false, false, false, false, false, false, false] (any_of HT_.out (by kernel_rfl)) ?_
             refine pureZ_ (i := 1) (some 27) #[true, true, false, false, false, false, false, false, false, false, false, false, false] (any_of HT_.out (by kernel_rfl)) ?_
             refine pureZ_ (i := 2) (some 28) #[true, true, true, false, false, false, false, false, false, false, false, false, false] (any_of HT_.out (by kernel_rfl)) ?_
             refine pureZ_ (i := 3) (some 29) #[true, true, true, true, false, false, false, false, false, false, false, false, false] (any_of HT_.out (by kernel_rfl)) ?_
             refine pureZ_ (i := 4) (some 30) #[true, true, true, true, true, false, false, false, false, false, false, false, false] (any_of HT_.out (by kernel_rfl)) ?_
             refine pureZ_ (i := 6) (some 32) #[true, true, true, true, true, false, true, false, false, false, false, false, false] (any_of HT_.out (by kernel_rfl)) ?_
             refine pureZ_ (i := 7) (some 33) #[true, true, true, true, true, false, true, true, false, false, false, false, false] (any_of HT_.out (by kernel_rfl)) ?_
             refine pureZ_ (i := 8) (some 34) #[true, true, true, true, true, false, true, true, true, false, false, false, false] (any_of HT_.out (by kernel_rfl)) ?_
             refine takeZ_ (i := 5) (some 31) #[true, true, true, true, true, true, true, true, true, false, false, false, false] (take_ofW HT_.out HW_.out (by kernel_rfl)) hHeld ?_
             refine takeZ_ (i := 9) (some 35) #[true, true, true, true, true, true, true, true, true, true, false, false, false] (take_ofW HT_.out HW_.out (by kernel_rfl)) hHeld ?_
             refine join_ (σ := Value × Nat) 1 #[true, true, true, true, true, true, true, true, true, true, true, true, false] (fun s_ => [(36, .agg #[.int .i64 t245, s_.1]), (9, .pointer (some ⟨s_.2, 0, none⟩))]) (fun s_ w' => (w'.cell? (ad243.add ((x8_3).toNat * 10)) = some (.int .i64 ((rd_T46 l0 x8_3).f0)) ∧ w'.cell? ⟨(ad243.add ((x8_3).toNat * 10)).block, (ad243.add ((x8_3).toNat * 10)).off + 1, none⟩ = some (.int .i64 ((rd_T46 l0 x8_3).f1.f0)) ∧ w'.cell? ⟨(ad243.add ((x8_3).toNat * 10)).block, (ad243.add ((x8_3).toNat * 10)).off + 2, none⟩ = some (.int .i64 ((rd_T46 l0 x8_3).f1.f1)) ∧ w'.cell? ⟨(ad243.add ((x8_3).toNat * 10)).block, (ad243.add ((x8_3).toNat * 10)).off + 3, none⟩ = some (.int .i64 ((rd_T46 l0 x8_3).f2)) ∧ w'.cell? ⟨(ad243.add ((x8_3).toNat * 10)).block, (ad243.add ((x8_3).toNat * 10)).off + 4, none⟩ = some (.int .i64 ((rd_T46 l0 x8_3).f3.f0)) ∧ w'.cell? ⟨(ad243.add ((x8_3).toNat * 10)).block, (ad243.add ((x8_3).toNat * 10)).off + 5, none⟩ = some (.int .i64 ((rd_T46 l0 x8_3).f3.f1)) ∧ w'.cell? ⟨(ad243.add ((x8_3).toNat * 10)).block, (ad243.add ((x8_3).toNat * 10)).off + 6, none⟩ = some (.int .i64 ((rd_T46 l0 x8_3).f4.f0)) ∧ w'.cell? ⟨(ad243.add ((x8_3).toNat * 10)).block, (ad243.add ((x8_3).toNat * 10)).off + 7, none⟩ = some (.int .i64 ((rd_T46 l0 x8_3).f4.f1)) ∧ w'.cell? ⟨(ad243.add ((x8_3).toNat * 10)).block, (ad243.add ((x8_3).toNat * 10)).off + 8, none⟩ = some (.int .i64 ((rd_T46 l0 x8_3).f5)) ∧ w'.cell? ⟨(ad243.add ((x8_3).toNat * 10)).block, (ad243.add ((x8_3).toNat * 10)).off + 9, none⟩ = some (.int .i64 ((rd_T46 l0 x8_3).f6)) ∧ w'.cell? (ad244.add ((x7_2).toNat * 3)) = some (.int .i64 ((rd_T29 l1 x7_2).f0.f0)) ∧ w'.cell? ⟨(ad244.add ((x7_2).toNat * 3)).block, (ad244.add ((x7_2).toNat * 3)).off + 1, none⟩ = some (.int .i64 ((rd_T29 l1 x7_2).f0.f1)) ∧ w'.cell? ⟨(ad244.add ((x7_2).toNat * 3)).block, (ad244.add ((x7_2).toNat * 3)).off + 2, none⟩ = some (.int .i64 ((rd_T29 l1 x7_2).f1))) ∧ (Kd.R (Kd.int .i64) 3 w' w.heap.size (fun k_ => some k_ ≠ (.slice Ao33 x5_3.length co33 : Value).ownBlock) s_.1 t246) ∧ (Kd.R (Kd.int .i64) 3 w' w.heap.size (fun k_ => some k_ ≠ (s_.1 : Value).ownBlock) (.slice Ao33 x5_3.length co33) x5_3) ∧ (w'.heap[s_.2]? = some (.cells #[.int .i64 0, .slice none 0 0] 167 (0, 0))) ∧ (w.heap.size ≤ s_.2) ∧ (w.heap.size ≤ s_.2) ∧ (Below w.heap.size w w')) ?_ ?_
             rotate_left
             ·intro hCont
              refine two_ (i := 10) (j := 11) (Ni := some 36) (Nj := some 9) #[true, true, true, true, true, true, true, true, true, true, true, false, false] #[true, true, true, true, true, true, true, true, true, true, false, true, false] rfl rfl rfl rfl (two_of HT_.out (by kernel_rfl)) (by decide) (by decide) (fun K hK => ?_) (fun K hK => ?_)
              ·skip
               refine goes_ Try.func142 (by kernel_rfl) rfl #[.slice (some ad244) l1.length c1, .slice Ao33 x5_3.length co33, .agg #[.int .i64 ((rd_T46 l0 x8_3).f0), .int .i64 ((rd_T46 l0 x8_3).f1.f0), .int .i64 ((rd_T46 l0 x8_3).f1.f1), .int .i64 ((rd_T46 l0 x8_3).f2), .int .i64 ((rd_T46 l0 x8_3).f3.f0), .int .i64 ((rd_T46 l0 x8_3).f3.f1), .int .i64 ((rd_T46 l0 x8_3).f4.f0), .int .i64 ((rd_T46 l0 x8_3).f4.f1), .int .i64 ((rd_T46 l0 x8_3).f5), .int .i64 ((rd_T46 l0 x8_3).f6)], .agg #[.int .i64 ((rd_T29 l1 x7_2).f0.f0), .int .i64 ((rd_T29 l1 x7_2).f0.f1), .int .i64 ((rd_T29 l1 x7_2).f1)]] (by rfl) rfl rfl (by (try simp only [List.map_toArray, List.map_cons, List.map_nil]); first | done | rfl | (simp only [List.length_drop, List.length_take]; rfl)) ?_
               with_reducible refine (spec_l19By.calls k3 _ _ l1 _ _ x5_3 ((rd_T46 l0 x8_3).f0) ((rd_T46 l0 x8_3).f1.f0) ((rd_T46 l0 x8_3).f1.f1) ((rd_T46 l0 x8_3).f2) ((rd_T46 l0 x8_3).f3.f0) ((rd_T46 l0 x8_3).f3.f1) ((rd_T46 l0 x8_3).f4.f0) ((rd_T46 l0 x8_3).f4.f1) ((rd_T46 l0 x8_3).f5) ((rd_T46 l0 x8_3).f6) ((rd_T29 l1 x7_2).f0.f0) ((rd_T29 l1 x7_2).f0.f1) ((rd_T29 l1 x7_2).f1) t245 t246 _ ?side1 ?side2 ?side3 ?side4 A13.out).mono ?_
               (case side1 => repeat (first | exact (Kd.C_below HR1.out HB.out) | (with_reducible refine Kd.C_alloc ?_ _) | (with_reducible refine Kd.C_drewN ?_ _) | (with_reducible refine Kd.C_drew ?_)))
               (case side2 => exact HC1.out)
               (case side3 => repeat (first | exact (Kd.R_reads' HO_5.out).2.2 | (with_reducible refine Kd.C_alloc ?_ _) | (with_reducible refine Kd.C_drewN ?_ _) | (with_reducible refine Kd.C_drew ?_)))
               (case side4 => exact (Kd.R_reads' HO_5.out).2.1)
               rintro e w35 ⟨v247, rfl, ho0, hb⟩
               refine ⟨_, rfl, ?_⟩
               have HO248 := Aside0.mk (Kd.R_lower (Kd.R_new' ho0 (Kd.R_lt (by (with_reducible repeat (first | apply Kd.R_alloc | apply Kd.R_drewN | apply Kd.R_drew)); exact HO_5.out))) bls_)
               replace HO_5 := Aside0.mk (Kd.R_elder' (by (with_reducible repeat (first | apply Kd.R_alloc | apply Kd.R_drewN | apply Kd.R_drew)); exact HO_5.out) (Kd.R_base ho0) hb)
               replace HB := hbs_ hb
               (try clear hb)
               (try clear hb2)
               (try clear hk)
               (try clear hi)
               (try clear ho0)
               refine hK.out _ _ ⟨(cb_ HB hw243_0 :), (cb_ HB hw243_1 :), (cb_ HB hw243_2 :), (cb_ HB hw243_3 :), (cb_ HB hw243_4 :), (cb_ HB hw243_5 :), (cb_ HB hw243_6 :), (cb_ HB hw243_7 :), (cb_ HB hw243_8 :), (cb_ HB hw243_9 :), (cb_ HB hw244_0 :), (cb_ HB hw244_1 :), (cb_ HB hw244_2 :)⟩ (fun hHeld => ?_)
               clear hK K
               refine norm_ (a' := ?_) ?_ ?_
               rotate_left
               ·show Act.put _ (some 36) _ = _
                simp only [Act.put, List.setIfInBounds_toArray, List.set_cons_zero, List.set_cons_succ, i64_w, i32_w]
                rfl
               refine one_ (i := 11) (N := some 9) #[true, true, true, true, true, true, true, true, true, true, true, true, false] rfl rfl (one_of HT_.out (by kernel_rfl)) (by decide) (fun K hK => ?_)
               refine box_step ?hg (N := 9) ?hd (cs := #[.int .i64 0, .slice none 0 0]) (t := 167) ?hr ?_; (case hd => rfl); (case hg => rfl); (case hr => first | (go_simp; done) | (go_simp; rfl))
               intro gb249 hg w36 hbox hb
               replace HO_5 := hob_ HO_5 hb
               replace HO248 := hob_ HO248 hb
               have BK249 := Aside0.mk (hbox)
               have GW249 := gs_ hg
               have GE249 := gs_ hg
               replace HB := hbs_ hb
               clear hb hbox hg
               refine hK.out _ _ ⟨(cb_ HB hw243_0 :), (cb_ HB hw243_1 :), (cb_ HB hw243_2 :), (cb_ HB hw243_3 :), (cb_ HB hw243_4 :), (cb_ HB hw243_5 :), (cb_ HB hw243_6 :), (cb_ HB hw243_7 :), (cb_ HB hw243_8 :), (cb_ HB hw243_9 :), (cb_ HB hw244_0 :), (cb_ HB hw244_1 :), (cb_ HB hw244_2 :)⟩ (fun hHeld => ?_)
               clear hK K
               refine norm_ (a' := ?_) ?_ ?_
               rotate_left
               ·show Act.put _ (some 9) _ = _
                simp only [Act.put, List.setIfInBounds_toArray, List.set_cons_zero, List.set_cons_succ, i64_w, i32_w]
                rfl
               exact norm_ (by simp only [putAll, Act.put, List.setIfInBounds_toArray, List.set_cons_zero, List.set_cons_succ]) (hCont (v247, gb249) _ ⟨hHeld, (by (with_reducible repeat (first | apply Kd.R_alloc | apply Kd.R_drewN | apply Kd.R_drew)); exact Kd.R_mono HO248.out (fun _ hk => hk.2)), (by (with_reducible repeat (first | apply Kd.R_alloc | apply Kd.R_drewN | apply Kd.R_drew)); exact Kd.R_mono HO_5.out (fun _ hk => hk.2)), (bk_ BK249), GW249.out, GE249.out, bl_⟩)
              ·skip
               refine box_step ?hg (N := 9) ?hd (cs := #[.int .i64 0, .slice none 0 0]) (t := 167) ?hr ?_; (case hd => rfl); (case hg => rfl); (case hr => first | (go_simp; done) | (go_simp; rfl))
               intro gb249 hg w35 hbox hb
               replace HO_5 := hob_ HO_5 hb
               have BK249 := Aside0.mk (hbox)
               have GW249 := gs_ hg
               have GE249 := gs_ hg
               replace HB := hbs_ hb
               clear hb hbox hg
               refine hK.out _ _ ⟨(cb_ HB hw243_0 :), (cb_ HB hw243_1 :), (cb_ HB hw243_2 :), (cb_ HB hw243_3 :), (cb_ HB hw243_4 :), (cb_ HB hw243_5 :), (cb_ HB hw243_6 :), (cb_ HB hw243_7 :), (cb_ HB hw243_8 :), (cb_ HB hw243_9 :), (cb_ HB hw244_0 :), (cb_ HB hw244_1 :), (cb_ HB hw244_2 :)⟩ (fun hHeld => ?_)
               clear hK K
               refine norm_ (a' := ?_) ?_ ?_
               rotate_left
               ·show Act.put _ (some 9) _ = _
                simp only [Act.put, List.setIfInBounds_toArray, List.set_cons_zero, List.set_cons_succ, i64_w, i32_w]
                rfl
               refine one_ (i := 10) (N := some 36) #[true, true, true, true, true, true, true, true, true, true, true, true, false] rfl rfl (one_of HT_.out (by kernel_rfl)) (by decide) (fun K hK => ?_)
               refine goes_ Try.func142 (by kernel_rfl) rfl #[.slice (some ad244) l1.length c1, .slice Ao33 x5_3.length co33, .agg #[.int .i64 ((rd_T46 l0 x8_3).f0), .int .i64 ((rd_T46 l0 x8_3).f1.f0), .int .i64 ((rd_T46 l0 x8_3).f1.f1), .int .i64 ((rd_T46 l0 x8_3).f2), .int .i64 ((rd_T46 l0 x8_3).f3.f0), .int .i64 ((rd_T46 l0 x8_3).f3.f1), .int .i64 ((rd_T46 l0 x8_3).f4.f0), .int .i64 ((rd_T46 l0 x8_3).f4.f1), .int .i64 ((rd_T46 l0 x8_3).f5), .int .i64 ((rd_T46 l0 x8_3).f6)], .agg #[.int .i64 ((rd_T29 l1 x7_2).f0.f0), .int .i64 ((rd_T29 l1 x7_2).f0.f1), .int .i64 ((rd_T29 l1 x7_2).f1)]] (by rfl) rfl rfl (by (try simp only [List.map_toArray, List.map_cons, List.map_nil]); first | done | rfl | (simp only [List.length_drop, List.length_take]; rfl)) ?_
               with_reducible refine (spec_l19By.calls k3 _ _ l1 _ _ x5_3 ((rd_T46 l0 x8_3).f0) ((rd_T46 l0 x8_3).f1.f0) ((rd_T46 l0 x8_3).f1.f1) ((rd_T46 l0 x8_3).f2) ((rd_T46 l0 x8_3).f3.f0) ((rd_T46 l0 x8_3).f3.f1) ((rd_T46 l0 x8_3).f4.f0) ((rd_T46 l0 x8_3).f4.f1) ((rd_T46 l0 x8_3).f5) ((rd_T46 l0 x8_3).f6) ((rd_T29 l1 x7_2).f0.f0) ((rd_T29 l1 x7_2).f0.f1) ((rd_T29 l1 x7_2).f1) t245 t246 _ ?side1 ?side2 ?side3 ?side4 A13.out).mono ?_
               (case side1 => repeat (first | exact (Kd.C_below HR1.out HB.out) | (with_reducible refine Kd.C_alloc ?_ _) | (with_reducible refine Kd.C_drewN ?_ _) | (with_reducible refine Kd.C_drew ?_)))
               (case side2 => exact HC1.out)
               (case side3 => repeat (first | exact (Kd.R_reads' HO_5.out).2.2 | (with_reducible refine Kd.C_alloc ?_ _) | (with_reducible refine Kd.C_drewN ?_ _) | (with_reducible refine Kd.C_drew ?_)))
               (case side4 => exact (Kd.R_reads' HO_5.out).2.1)
               rintro e w36 ⟨v247, rfl, ho0, hb⟩
               refine ⟨_, rfl, ?_⟩
               have HO248 := Aside0.mk (Kd.R_lower (Kd.R_new' ho0 (Kd.R_lt (by (with_reducible repeat (first | apply Kd.R_alloc | apply Kd.R_drewN | apply Kd.R_drew)); exact HO_5.out))) bls_)
               replace HO_5 := Aside0.mk (Kd.R_elder' (by (with_reducible repeat (first | apply Kd.R_alloc | apply Kd.R_drewN | apply Kd.R_drew)); exact HO_5.out) (Kd.R_base ho0) hb)
               replace BK249 := bkb_ BK249 hb
               replace HB := hbs_ hb
               (try clear hb)
               (try clear hb2)
               (try clear hk)
               (try clear hi)
               (try clear ho0)
               refine hK.out _ _ ⟨(cb_ HB hw243_0 :), (cb_ HB hw243_1 :), (cb_ HB hw243_2 :), (cb_ HB hw243_3 :), (cb_ HB hw243_4 :), (cb_ HB hw243_5 :), (cb_ HB hw243_6 :), (cb_ HB hw243_7 :), (cb_ HB hw243_8 :), (cb_ HB hw243_9 :), (cb_ HB hw244_0 :), (cb_ HB hw244_1 :), (cb_ HB hw244_2 :)⟩ (fun hHeld => ?_)
               clear hK K
               refine norm_ (a' := ?_) ?_ ?_
               rotate_left
               ·show Act.put _ (some 36) _ = _
                simp only [Act.put, List.setIfInBounds_toArray, List.set_cons_zero, List.set_cons_succ, i64_w, i32_w]
                rfl
               exact norm_ (by simp only [putAll, Act.put, List.setIfInBounds_toArray, List.set_cons_zero, List.set_cons_succ]) (hCont (v247, gb249) _ ⟨hHeld, (by (with_reducible repeat (first | apply Kd.R_alloc | apply Kd.R_drewN | apply Kd.R_drew)); exact Kd.R_mono HO248.out (fun _ hk => hk.2)), (by (with_reducible repeat (first | apply Kd.R_alloc | apply Kd.R_drewN | apply Kd.R_drew)); exact Kd.R_mono HO_5.out (fun _ hk => hk.2)), (bk_ BK249), GW249.out, GE249.out, bl_⟩)
             rintro ⟨v247, gb249⟩ w37 ⟨hS_, h0_, h1_, h2_, h3_, h4_, h5_⟩
             have n0_ : Aside0 (Kd.R (Kd.int .i64) 3 w37 w.heap.size (fun k_ => some k_ ≠ (.slice Ao33 x5_3.length co33 : Value).ownBlock) v247 t246) := ⟨h0_⟩
             have n1_ : Aside0 (Kd.R (Kd.int .i64) 3 w37 w.heap.size (fun k_ => some k_ ≠ (v247 : Value).ownBlock) (.slice Ao33 x5_3.length co33) x5_3) := ⟨h1_⟩
             have n2_ : Aside0 (w37.heap[gb249]? = some (.cells #[.int .i64 0, .slice none 0 0] 167 (0, 0))) := ⟨h2_⟩
             have n3_ : Aside0 (w.heap.size ≤ gb249) := ⟨h3_⟩
             have n4_ : Aside0 (w.heap.size ≤ gb249) := ⟨h4_⟩
             have n5_ : Aside0 (Below w.heap.size w w37) := ⟨h5_⟩
             clear HO_5
             clear HB
             clear h0_ h1_ h2_ h3_ h4_ h5_
             have HO248 := n0_
             have HO_5 := n1_
             have BK249 := n2_
             have GW249 := n3_
             have GE249 := n4_
             have HB := n5_
             clear n0_ n1_ n2_ n3_ n4_ n5_
             have hHeld : w37.cell? (ad243.add ((x8_3).toNat * 10)) = some (.int .i64 ((rd_T46 l0 x8_3).f0)) ∧ w37.cell? ⟨(ad243.add ((x8_3).toNat * 10)).block, (ad243.add ((x8_3).toNat * 10)).off + 1, none⟩ = some (.int .i64 ((rd_T46 l0 x8_3).f1.f0)) ∧ w37.cell? ⟨(ad243.add ((x8_3).toNat * 10)).block, (ad243.add ((x8_3).toNat * 10)).off + 2, none⟩ = some (.int .i64 ((rd_T46 l0 x8_3).f1.f1)) ∧ w37.cell? ⟨(ad243.add ((x8_3).toNat * 10)).block, (ad243.add ((x8_3).toNat * 10)).off + 3, none⟩ = some (.int .i64 ((rd_T46 l0 x8_3).f2)) ∧ w37.cell? ⟨(ad243.add ((x8_3).toNat * 10)).block, (ad243.add ((x8_3).toNat * 10)).off + 4, none⟩ = some (.int .i64 ((rd_T46 l0 x8_3).f3.f0)) ∧ w37.cell? ⟨(ad243.add ((x8_3).toNat * 10)).block, (ad243.add ((x8_3).toNat * 10)).off + 5, none⟩ = some (.int .i64 ((rd_T46 l0 x8_3).f3.f1)) ∧ w37.cell? ⟨(ad243.add ((x8_3).toNat * 10)).block, (ad243.add ((x8_3).toNat * 10)).off + 6, none⟩ = some (.int .i64 ((rd_T46 l0 x8_3).f4.f0)) ∧ w37.cell? ⟨(ad243.add ((x8_3).toNat * 10)).block, (ad243.add ((x8_3).toNat * 10)).off + 7, none⟩ = some (.int .i64 ((rd_T46 l0 x8_3).f4.f1)) ∧ w37.cell? ⟨(ad243.add ((x8_3).toNat * 10)).block, (ad243.add ((x8_3).toNat * 10)).off + 8, none⟩ = some (.int .i64 ((rd_T46 l0 x8_3).f5)) ∧ w37.cell? ⟨(ad243.add ((x8_3).toNat * 10)).block, (ad243.add ((x8_3).toNat * 10)).off + 9, none⟩ = some (.int .i64 ((rd_T46 l0 x8_3).f6)) ∧ w37.cell? (ad244.add ((x7_2).toNat * 3)) = some (.int .i64 ((rd_T29 l1 x7_2).f0.f0)) ∧ w37.cell? ⟨(ad244.add ((x7_2).toNat * 3)).block, (ad244.add ((x7_2).toNat * 3)).off + 1, none⟩ = some (.int .i64 ((rd_T29 l1 x7_2).f0.f1)) ∧ w37.cell? ⟨(ad244.add ((x7_2).toNat * 3)).block, (ad244.add ((x7_2).toNat * 3)).off + 2, none⟩ = some (.int .i64 ((rd_T29 l1 x7_2).f1)) := hS_
             obtain ⟨Ao39, co39, eo39⟩ := Kd.R_slice HO248.out
             (first | subst eo39 | (injection eo39 with f1_ f2_ f3_; have f4_ := f1_.symm; have f5_ := f3_.symm; clear f1_ f2_ f3_; subst f4_; subst f5_))
             refine norm_ (a' := ?_) ?_ ?_
             rotate_left
             ·simp only [putAll, Act.put, List.setIfInBounds_toArray, List.set_cons_zero, List.set_cons_succ]
              rfl
             refine one_ (i := 12) (N := none) #[true, true, true, true, true, true, true, true, true, true, true, true, true] rfl rfl (one_of HT_.out (by kernel_rfl)) (by decide) (fun K hK => ?_)
             have hs38 : w37.cell? ⟨gb249, 0, none⟩ = some (.int .i64 0) := (blk_cell BK249.out 0).trans rfl
             have hfs38 := blk_frozen BK249.out 0
             have hs40 : w37.cell? ⟨gb249, 1, none⟩ = some (.slice none 0 0) := (blk_cell BK249.out 1).trans rfl
             have hfs40 := blk_frozen BK249.out 1
             refine skip_ (w1 := ?_) (by rfl) rfl ?_ ?_
             rotate_left
             ·go_simp
              rfl
             refine hK.out _ _ ⟨((cell_far (p := ⟨gb249, _, none⟩) (fb_ hw243_0 GW249.out) _).trans (((cell_far (p := ⟨gb249, _, none⟩) (fb_ hw243_0 GW249.out) _).trans (hHeld.1)))), ((cell_far (p := ⟨gb249, _, none⟩) (fb_ hw243_1 GW249.out) _).trans (((cell_far (p := ⟨gb249, _, none⟩) (fb_ hw243_1 GW249.out) _).trans (hHeld.2.1)))), ((cell_far (p := ⟨gb249, _, none⟩) (fb_ hw243_2 GW249.out) _).trans (((cell_far (p := ⟨gb249, _, none⟩) (fb_ hw243_2 GW249.out) _).trans (hHeld.2.2.1)))), ((cell_far (p := ⟨gb249, _, none⟩) (fb_ hw243_3 GW249.out) _).trans (((cell_far (p := ⟨gb249, _, none⟩) (fb_ hw243_3 GW249.out) _).trans (hHeld.2.2.2.1)))), ((cell_far (p := ⟨gb249, _, none⟩) (fb_ hw243_4 GW249.out) _).trans (((cell_far (p := ⟨gb249, _, none⟩) (fb_ hw243_4 GW249.out) _).trans (hHeld.2.2.2.2.1)))), ((cell_far (p := ⟨gb249, _, none⟩) (fb_ hw243_5 GW249.out) _).trans (((cell_far (p := ⟨gb249, _, none⟩) (fb_ hw243_5 GW249.out) _).trans (hHeld.2.2.2.2.2.1)))), ((cell_far (p := ⟨gb249, _, none⟩) (fb_ hw243_6 GW249.out) _).trans (((cell_far (p := ⟨gb249, _, none⟩) (fb_ hw243_6 GW249.out) _).trans (hHeld.2.2.2.2.2.2.1)))), ((cell_far (p := ⟨gb249, _, none⟩) (fb_ hw243_7 GW249.out) _).trans (((cell_far (p := ⟨gb249, _, none⟩) (fb_ hw243_7 GW249.out) _).trans (hHeld.2.2.2.2.2.2.2.1)))), ((cell_far (p := ⟨gb249, _, none⟩) (fb_ hw243_8 GW249.out) _).trans (((cell_far (p := ⟨gb249, _, none⟩) (fb_ hw243_8 GW249.out) _).trans (hHeld.2.2.2.2.2.2.2.2.1)))), ((cell_far (p := ⟨gb249, _, none⟩) (fb_ hw243_9 GW249.out) _).trans (((cell_far (p := ⟨gb249, _, none⟩) (fb_ hw243_9 GW249.out) _).trans (hHeld.2.2.2.2.2.2.2.2.2.1)))), ((cell_far (p := ⟨gb249, _, none⟩) (fb_ hw244_0 GW249.out) _).trans (((cell_far (p := ⟨gb249, _, none⟩) (fb_ hw244_0 GW249.out) _).trans (hHeld.2.2.2.2.2.2.2.2.2.2.1)))), ((cell_far (p := ⟨gb249, _, none⟩) (fb_ hw244_1 GW249.out) _).trans (((cell_far (p := ⟨gb249, _, none⟩) (fb_ hw244_1 GW249.out) _).trans (hHeld.2.2.2.2.2.2.2.2.2.2.2.1)))), ((cell_far (p := ⟨gb249, _, none⟩) (fb_ hw244_2 GW249.out) _).trans (((cell_far (p := ⟨gb249, _, none⟩) (fb_ hw244_2 GW249.out) _).trans (hHeld.2.2.2.2.2.2.2.2.2.2.2.2))))⟩ (fun hHeld => ?_)
             clear hK K
             refine done_ (done_of HT_.out (by kernel_rfl)) ?_
             try go_wp2
             have n0_ : Aside0 (Kd.R (Kd.int .i64) 3 ((w37.setCell ⟨gb249, 0, none⟩ (.int .i64 t245)).setCell ⟨gb249, 1, none⟩ (.slice Ao39 t246.length co39)) w.heap.size (fun k_ => some k_ ≠ (.slice Ao39 t246.length co39 : Value).ownBlock) (.slice Ao33 x5_3.length co33) x5_3) := ⟨by (with_reducible repeat (first | apply Kd.R_alloc | apply Kd.R_drewN | apply Kd.R_drew)); exact Kd.R_mono (Kd.R_far (p := ⟨gb249, 1, none⟩) (Kd.R_far (p := ⟨gb249, 0, none⟩) (Kd.R_types HO_5.out BK249.out (by decide)) (fun _ hk => hk.2) (.int .i64 t245)) (fun _ hk => hk.2) (.slice Ao39 t246.length co39)) (fun _ hk => hk.1)⟩
             have n1_ : Aside0 (Kd.R (Kd.int .i64) 3 ((w37.setCell ⟨gb249, 0, none⟩ (.int .i64 t245)).setCell ⟨gb249, 1, none⟩ (.slice Ao39 t246.length co39)) w.heap.size (fun k_ => some k_ ≠ (.slice Ao33 x5_3.length co33 : Value).ownBlock) (.slice Ao39 t246.length co39) t246) := ⟨by (with_reducible repeat (first | apply Kd.R_alloc | apply Kd.R_drewN | apply Kd.R_drew)); exact Kd.R_mono (Kd.R_far (p := ⟨gb249, 1, none⟩) (Kd.R_far (p := ⟨gb249, 0, none⟩) (Kd.R_types HO248.out BK249.out (by decide)) (fun _ hk => hk.2) (.int .i64 t245)) (fun _ hk => hk.2) (.slice Ao39 t246.length co39)) (fun _ hk => hk.1)⟩
             have n2_ : Aside0 (((w37.setCell ⟨gb249, 0, none⟩ (.int .i64 t245)).setCell ⟨gb249, 1, none⟩ (.slice Ao39 t246.length co39)).heap[gb249]? = some (.cells #[.int .i64 t245, .slice Ao39 t246.length co39] 167 (0, 0))) := ⟨bk_ BK249⟩
             have n3_ : Aside0 (Below w.heap.size w ((w37.setCell ⟨gb249, 0, none⟩ (.int .i64 t245)).setCell ⟨gb249, 1, none⟩ (.slice Ao39 t246.length co39))) := ⟨bl_⟩
             (try clear HO_5)
             (try clear HO248)
             (try clear BK249)
             (try clear HB)
             generalize ((w37.setCell ⟨gb249, 0, none⟩ (.int .i64 t245)).setCell ⟨gb249, 1, none⟩ (.slice Ao39 t246.length co39)) = w41 at n0_ n1_ n2_ n3_ ⊢
             have HO_5 := n0_
             have HO248 := n1_
             have BK249 := n2_
             have HB := n3_
             clear n0_ n1_ n2_ n3_
             replace HO_5 := Aside0.mk (Kd.R_drew HO_5.out)
             replace HO248 := Aside0.mk (Kd.R_drew HO248.out)
             replace BK249 := Aside0.mk (blk_drew BK249.out)
             replace HB := Aside0.mk (below_drew1 HB.out)
             have p250 : 0 ≤ (x7_2 : Int) := od_
             have q250 : x7_2 < (x5_3.length : Int) := od_
             obtain ⟨ad250, e250, hx250_0⟩ := Kd.at_int (Kd.R_reads' HO_5.out).2.2 x7_2 p250 q250
             cases e250
             replace p250 := eq_true p250
             replace q250 := eq_true q250
             have p252 : 0 ≤ (x7_2 : Int) := od_
             have q252 : x7_2 < (x5_3.length : Int) := od_
             obtain ⟨ad252, e252, hx252_0⟩ := Kd.at_int (Kd.R_reads' HO_5.out).2.2 x7_2 p252 q252
             obtain rfl : ad250 = ad252 := (by injection e252)
             replace p252 := eq_true p252
             replace q252 := eq_true q252
             refine start_ (n := 19) (S := fun w' => w'.cell? ⟨gb249, 0, none⟩ = some (.int .i64 t245) ∧ w'.cell? ⟨gb249, 1, none⟩ = some (.slice Ao39 t246.length co39) ∧ w'.cell? (ad250.add (x7_2).toNat) = some (.int .i64 (rd x5_3 x7_2)) ∧ w'.cell? (ad250.add (x7_2).toNat) = some (.int .i64 (rd x5_3 x7_2))) (ds := []) #[false, false, false, false, false, false, false, false, false, false, false, false, false, false, false, false, false, false, false] (by kernel_rfl) rfl rfl ⟨(blk_cell BK249.out 0).trans rfl, (blk_cell BK249.out 1).trans rfl, hx250_0, hx252_0⟩ (fun hHeld => ?_); refine with_tabW spec_l19Sizes.tab12 spec_l19Sizes.bits12 (fun HT_ HW_ => ?_)
             generalize w41.drew = w42 at HO_5 HO248 BK249 HB hx250_0 hx252_0 hHeld ⊢
             refine pureZ_ (i := 0) (some 37) #[true, false, false, false, false, false, false, false, false, false, false, false, false, false, false, false, false, false, false] (any_of HT_.out (by kernel_rfl)) ?_
             refine takeZ_ (i := 1) (some 38) #[true, true, false, false, false, false, false, false, false, false, false, false, false, false, false, false, false, false, false] (take_ofW HT_.out HW_.out (by kernel_rfl)) hHeld ?_
             refine pureZ_ (i := 2) (some 39) #[true, true, true, false, false, false, false, false, false, false, false, false, false, false, false, false, false, false, false] (any_of HT_.out (by kernel_rfl)) ?_
             refine pureZ_ (i := 3) (some 40) #[true, true, true, true, false, false, false, false, false, false, false, false, false, false, false, false, false, false, false] (any_of HT_.out (by kernel_rfl)) ?_
             refine pureZ_ (i := 4) (some 41) #[true, true, true, true, true, false, false, false, false, false, false, false, false, false, false, false, false, false, false] (any_of HT_.out (by kernel_rfl)) ?_
             refine pureZ_ (i := 5) (some 42) #[true, true, true, true, true, true, false, false, false, false, false, false, false, false, false, false, false, false, false] (any_of HT_.out (by kernel_rfl)) ?_
             refine pureZ_ (i := 6) (some 43) #[true, true, true, true, true, true, true, false, false, false, false, false, false, false, false, false, false, false, false] (any_of HT_.out (by kernel_rfl)) ?_
             refine takeZ_ (i := 7) (some 44) #[true, true, true, true, true, true, true, true, false, false, false, false, false, false, false, false, false, false, false] (take_ofW HT_.out HW_.out (by kernel_rfl)) hHeld ?_
             refine pureZ_ (i := 8) (some 45) #[true, true, true, true, true, true, true, true, true, false, false, false, false, false, false, false, false, false, false] (any_of HT_.out (by kernel_rfl)) ?_
             refine pureZ_ (i := 9) (some 46) #[true, true, true, true, true, true, true, true, true, true, false, false, false, false, false, false, false, false, false] (any_of HT_.out (by kernel_rfl)) ?_
             refine pureZ_ (i := 10) (some 47) #[true, true, true, true, true, true, true, true, true, true, true, false, false, false, false, false, false, false, false] (any_of HT_.out (by kernel_rfl)) ?_
             refine pureZ_ (i := 12) (some 49) #[true, true, true, true, true, true, true, true, true, true, true, false, true, false, false, false, false, false, false] (any_of HT_.out (by kernel_rfl)) ?_
             refine pureZ_ (i := 13) (some 50) #[true, true, true, true, true, true, true, true, true, true, true, false, true, true, false, false, false, false, false] (any_of HT_.out (by kernel_rfl)) ?_
             refine pureZ_ (i := 14) (some 51) #[true, true, true, true, true, true, true, true, true, true, true, false, true, true, true, false, false, false, false] (any_of HT_.out (by kernel_rfl)) ?_
             refine takeZ_ (i := 11) (some 48) #[true, true, true, true, true, true, true, true, true, true, true, true, true, true, true, false, false, false, false] (take_ofW HT_.out HW_.out (by kernel_rfl)) hHeld ?_
             refine takeZ_ (i := 15) (some 52) #[true, true, true, true, true, true, true, true, true, true, true, true, true, true, true, true, false, false, false] (take_ofW HT_.out HW_.out (by kernel_rfl)) hHeld ?_
             refine pureZ_ (i := 16) (some 53) #[true, true, true, true, true, true, true, true, true, true, true, true, true, true, true, true, true, false, false] (any_of HT_.out (by kernel_rfl)) ?_
             refine pureZ_ (i := 17) (some 54) #[true, true, true, true, true, true, true, true, true, true, true, true, true, true, true, true, true, true, false] (any_of HT_.out (by kernel_rfl)) ?_
             refine pureZ_ (i := 18) (some 55) #[true, true, true, true, true, true, true, true, true, true, true, true, true, true, true, true, true, true, true] (any_of HT_.out (by kernel_rfl)) ?_
             refine done_ (done_of HT_.out (by kernel_rfl)) ?_
             have hcz43 := blk_cell BK249.out
             have hfz43 := blk_frozen BK249.out
             have p32 : 0 ≤ (x7_2 : Int) := od_
             have q32 : (x7_2 : Int) < ((x5_3.length : Int) : Int) := od_
             obtain ⟨go32, co32, eo32, gb32, gl32, cl32, HG32⟩ := Kd.R_form HO_5.out (by omega)
             (first | cases eo32 | (injection eo32 with ea_ en_ ec_; (first | subst ea_ | (injection ea_ with ea_; subst ea_)); subst ec_; clear en_))
             have GB32 := Aside0.mk gb32
             have GG32 := Aside0.mk HG32
             clear gb32 gl32 HG32
             (first | simp only [add_plain] at hx250_0 | skip)
             (first | simp only [add_plain] at hx252_0 | skip)
             obtain ⟨hx32_0, hf32_0⟩ := Kd.R_celln 0 HO_5.out (x7_2 : Int) p32 q32
             replace p32 := eq_true p32
             replace q32 := eq_true q32
             obtain ⟨hy44_, hz44_⟩ := Kd.R_celln 0 HO_5.out (x7_2 : Int) (od_) (od_)
             have HP44 := Kd.R_putg HO_5.out (x7_2 : Int) t245
             try go_wp2_with (first | ((with_reducible refine gate_store (t := 3) (p := 60) rfl ?_); refine store_event (t := 3) (p := 60) (v := ?vo_w45) (w1 := (w42.setCell ⟨go32, (x7_2 : Int).toNat, none⟩ (.int .i64 t245))) ?hg ?ho ?hn ?hr ?_; (case ho => rfl); (case hg => rfl); (case hn => rfl); (case hr => first | (go_simp; done) | (go_simp; rfl)); intro w45 hw; have hg : w42.grownBy w45 (some go32) := (by rw [hw]; exact HP44.2); have hp_ : Kd.R (Kd.int .i64) 3 w45 w.heap.size (fun k_ => some k_ ≠ (.slice Ao39 t246.length co39 : Value).ownBlock) (.slice (some ⟨go32, 0, none⟩) x5_3.length co33) y253 := (by rw [hw, Ny253.out]; exact HP44.1); clear HP44; replace HO248 := Aside0.mk (Kd.R_after (v := (.slice (some ⟨go32, 0, none⟩) x5_3.length co33)) (v1 := (.slice (some ⟨go32, 0, none⟩) x5_3.length co33)) (ok := (fun _ => True)) (by (with_reducible repeat (first | apply Kd.R_alloc | apply Kd.R_drewN | apply Kd.R_drew)); exact Kd.R_mono HO248.out (fun _ hk => ⟨trivial, hk⟩)) hg (.inl rfl)); replace BK249 := Aside0.mk (blk_grown (g := gb249) (o := .cells #[.int .i64 t245, .slice Ao39 t246.length co39] 167 (0, 0)) (bk_ BK249) hg (Kd.R_ne HO_5.out BK249.out (by decide))); replace HO_5 := Aside0.mk (hp_); replace HB := Aside0.mk ((by rw [hw]; exact below_set (HB.out) GB32.out : Below w.heap.size w w45)); clear hg hw hp_))
             go_roundg k3
             case measure => have := HK1.out; have := HK2.out; have := HK3.out; omega
             case rel => exact ⟨(y253), (true), (wrap64 (x8_3 + 1)), rf_, rf_, H', ⟨by have := HK1.out; have := HK2.out; have := HK3.out; omega⟩, ⟨by (with_reducible repeat (first | apply Kd.R_alloc | apply Kd.R_drewN | apply Kd.R_drew)); exact Kd.R_mono HO_5.out (fun _ hk => trivial)⟩, ⟨bl_⟩⟩
            ·rw [if_neg c31] at H
             have c31b0 : decide (t245 < (rd x5_3 x7_2)) = false := decide_eq_false c31
             clear c31
             have H' := Aside0.mk H
             clear H
             obtain ⟨Ao46, co46, eo46⟩ := Kd.R_slice HO_5.out
             subst eo46
             try go_wp2
             replace HO_5 := Aside0.mk (Kd.R_drew HO_5.out)
             replace HB := Aside0.mk (below_drew1 HB.out)
             have p243 : 0 ≤ (x8_3 : Int) := od_
             have q243 : x8_3 < (l0.length : Int) := od_
             obtain ⟨ad243, e243, hx243_0, hx243_1, hx243_2, hx243_3, hx243_4, hx243_5, hx243_6, hx243_7, hx243_8, hx243_9⟩ := at_T46 HR0.out x8_3 p243 q243
             have hw243_9 := hx243_9
             have hw243_8 := hx243_8
             have hw243_7 := hx243_7
             have hw243_6 := hx243_6
             have hw243_5 := hx243_5
             have hw243_4 := hx243_4
             have hw243_3 := hx243_3
             have hw243_2 := hx243_2
             have hw243_1 := hx243_1
             have hw243_0 := hx243_0
             cases e243
             replace hx243_0 := cb_ HB hx243_0
             replace hx243_1 := cb_ HB hx243_1
             replace hx243_2 := cb_ HB hx243_2
             replace hx243_3 := cb_ HB hx243_3
             replace hx243_4 := cb_ HB hx243_4
             replace hx243_5 := cb_ HB hx243_5
             replace hx243_6 := cb_ HB hx243_6
             replace hx243_7 := cb_ HB hx243_7
             replace hx243_8 := cb_ HB hx243_8
             replace hx243_9 := cb_ HB hx243_9
             replace p243 := eq_true p243
             replace q243 := eq_true q243
             have p244 : 0 ≤ (x7_2 : Int) := od_
             have q244 : x7_2 < (l1.length : Int) := od_
             obtain ⟨ad244, e244, hx244_0, hx244_1, hx244_2⟩ := at_T29 HR1.out x7_2 p244 q244
             have hw244_2 := hx244_2
             have hw244_1 := hx244_1
             have hw244_0 := hx244_0
             cases e244
             replace hx244_0 := cb_ HB hx244_0
             replace hx244_1 := cb_ HB hx244_1
             replace hx244_2 := cb_ HB hx244_2
             replace p244 := eq_true p244
             replace q244 := eq_true q244
             refine start_ (n := 13) (S := fun w' => w'.cell? (ad243.add ((x8_3).toNat * 10)) = some (.int .i64 ((rd_T46 l0 x8_3).f0)) ∧ w'.cell? ⟨(ad243.add ((x8_3).toNat * 10)).block, (ad243.add ((x8_3).toNat * 10)).off + 1, none⟩ = some (.int .i64 ((rd_T46 l0 x8_3).f1.f0)) ∧ w'.cell? ⟨(ad243.add ((x8_3).toNat * 10)).block, (ad243.add ((x8_3).toNat * 10)).off + 2, none⟩ = some (.int .i64 ((rd_T46 l0 x8_3).f1.f1)) ∧ w'.cell? ⟨(ad243.add ((x8_3).toNat * 10)).block, (ad243.add ((x8_3).toNat * 10)).off + 3, none⟩ = some (.int .i64 ((rd_T46 l0 x8_3).f2)) ∧ w'.cell? ⟨(ad243.add ((x8_3).toNat * 10)).block, (ad243.add ((x8_3).toNat * 10)).off + 4, none⟩ = some (.int .i64 ((rd_T46 l0 x8_3).f3.f0)) ∧ w'.cell? ⟨(ad243.add ((x8_3).toNat * 10)).block, (ad243.add ((x8_3).toNat * 10)).off + 5, none⟩ = some (.int .i64 ((rd_T46 l0 x8_3).f3.f1)) ∧ w'.cell? ⟨(ad243.add ((x8_3).toNat * 10)).block, (ad243.add ((x8_3).toNat * 10)).off + 6, none⟩ = some (.int .i64 ((rd_T46 l0 x8_3).f4.f0)) ∧ w'.cell? ⟨(ad243.add ((x8_3).toNat * 10)).block, (ad243.add ((x8_3).toNat * 10)).off + 7, none⟩ = some (.int .i64 ((rd_T46 l0 x8_3).f4.f1)) ∧ w'.cell? ⟨(ad243.add ((x8_3).toNat * 10)).block, (ad243.add ((x8_3).toNat * 10)).off + 8, none⟩ = some (.int .i64 ((rd_T46 l0 x8_3).f5)) ∧ w'.cell? ⟨(ad243.add ((x8_3).toNat * 10)).block, (ad243.add ((x8_3).toNat * 10)).off + 9, none⟩ = some (.int .i64 ((rd_T46 l0 x8_3).f6)) ∧ w'.cell? (ad244.add ((x7_2).toNat * 3)) = some (.int .i64 ((rd_T29 l1 x7_2).f0.f0)) ∧ w'.cell? ⟨(ad244.add ((x7_2).toNat * 3)).block, (ad244.add ((x7_2).toNat * 3)).off + 1, none⟩ = some (.int .i64 ((rd_T29 l1 x7_2).f0.f1)) ∧ w'.cell? ⟨(ad244.add ((x7_2).toNat * 3)).block, (ad244.add ((x7_2).toNat * 3)).off + 2, none⟩ = some (.int .i64 ((rd_T29 l1 x7_2).f1))) (ds := []) #[false, false, false, false, false, false, false, false, false, false, false, false, false] (by kernel_rfl) rfl rfl ⟨(cb_ HB hw243_0 :), (cb_ HB hw243_1 :), (cb_ HB hw243_2 :), (cb_ HB hw243_3 :), (cb_ HB hw243_4 :), (cb_ HB hw243_5 :), (cb_ HB hw243_6 :), (cb_ HB hw243_7 :), (cb_ HB hw243_8 :), (cb_ HB hw243_9 :), (cb_ HB hw244_0 :), (cb_ HB hw244_1 :), (cb_ HB hw244_2 :)⟩ (fun hHeld => ?_); refine with_tabW spec_l19Sizes.tab11 spec_l19Sizes.bits11 (fun HT_ HW_ => ?_)
             generalize wr.drew = w47 at HO_5 HB hx243_0 hx243_1 hx243_2 hx243_3 hx243_4 hx243_5 hx243_6 hx243_7 hx243_8 hx243_9 hx244_0 hx244_1 hx244_2 hHeld ⊢
             refine pureZ_ (i := 0) (some 26) #[true, false, false, false, false, false, false, false, false, false, false, false, false] (any_of HT_.out (by kernel_rfl)) ?_
             refine pureZ_ (i := 1) (some 27) #[true, true, false, false, false, false, false, false, false, false, false, false, false] (any_of HT_.out (by kernel_rfl)) ?_
             refine pureZ_ (i := 2) (some 28) #[true, true, true, false, false, false, false, false, false, false, false, false, false] (any_of HT_.out (by kernel_rfl)) ?_
             refine pureZ_ (i := 3) (some 29) #[true, true, true, true, false, false, false, false, false, false, false, false, false] (any_of HT_.out (by kernel_rfl)) ?_
             refine pureZ_ (i := 4) (some 30) #[true, true, true, true, true, false, false, false, false, false, false, false, false] (any_of HT_.out (by kernel_rfl)) ?_
             refine pureZ_ (i := 6) (some 32) #[true, true, true, true, true, false, true, false, false, false, false, false, false] (any_of HT_.out (by kernel_rfl)) ?_
             refine pureZ_ (i := 7) (some 33) #[true, true, true, true, true, false, true, true, false, false, false, false, false] (any_of HT_.out (by kernel_rfl)) ?_
             refine pureZ_ (i := 8) (some 34) #[true, true, true, true, true, false, true, true, true, false, false, false, false] (any_of HT_.out (by kernel_rfl)) ?_
             refine takeZ_ (i := 5) (some 31) #[true, true, true, true, true, true, true, true, true, false, false, false, false] (take_ofW HT_.out HW_.out (by kernel_rfl)) hHeld ?_
             refine takeZ_ (i := 9) (some 35) #[true, true, true, true, true, true, true, true, true, true, false, false, false] (take_ofW HT_.out HW_.out (by kernel_rfl)) hHeld ?_
             refine join_ (σ := Value × Nat) 1 #[true, true, true, true, true, true, true, true, true, true, true, true, false] (fun s_ => [(36, .agg #[.int .i64 t245, s_.1]), (9, .pointer (some ⟨s_.2, 0, none⟩))]) (fun s_ w' => (w'.cell? (ad243.add ((x8_3).toNat * 10)) = some (.int .i64 ((rd_T46 l0 x8_3).f0)) ∧ w'.cell? ⟨(ad243.add ((x8_3).toNat * 10)).block, (ad243.add ((x8_3).toNat * 10)).off + 1, none⟩ = some (.int .i64 ((rd_T46 l0 x8_3).f1.f0)) ∧ w'.cell? ⟨(ad243.add ((x8_3).toNat * 10)).block, (ad243.add ((x8_3).toNat * 10)).off + 2, none⟩ = some (.int .i64 ((rd_T46 l0 x8_3).f1.f1)) ∧ w'.cell? ⟨(ad243.add ((x8_3).toNat * 10)).block, (ad243.add ((x8_3).toNat * 10)).off + 3, none⟩ = some (.int .i64 ((rd_T46 l0 x8_3).f2)) ∧ w'.cell? ⟨(ad243.add ((x8_3).toNat * 10)).block, (ad243.add ((x8_3).toNat * 10)).off + 4, none⟩ = some (.int .i64 ((rd_T46 l0 x8_3).f3.f0)) ∧ w'.cell? ⟨(ad243.add ((x8_3).toNat * 10)).block, (ad243.add ((x8_3).toNat * 10)).off + 5, none⟩ = some (.int .i64 ((rd_T46 l0 x8_3).f3.f1)) ∧ w'.cell? ⟨(ad243.add ((x8_3).toNat * 10)).block, (ad243.add ((x8_3).toNat * 10)).off + 6, none⟩ = some (.int .i64 ((rd_T46 l0 x8_3).f4.f0)) ∧ w'.cell? ⟨(ad243.add ((x8_3).toNat * 10)).block, (ad243.add ((x8_3).toNat * 10)).off + 7, none⟩ = some (.int .i64 ((rd_T46 l0 x8_3).f4.f1)) ∧ w'.cell? ⟨(ad243.add ((x8_3).toNat * 10)).block, (ad243.add ((x8_3).toNat * 10)).off + 8, none⟩ = some (.int .i64 ((rd_T46 l0 x8_3).f5)) ∧ w'.cell? ⟨(ad243.add ((x8_3).toNat * 10)).block, (ad243.add ((x8_3).toNat * 10)).off + 9, none⟩ = some (.int .i64 ((rd_T46 l0 x8_3).f6)) ∧ w'.cell? (ad244.add ((x7_2).toNat * 3)) = some (.int .i64 ((rd_T29 l1 x7_2).f0.f0)) ∧ w'.cell? ⟨(ad244.add ((x7_2).toNat * 3)).block, (ad244.add ((x7_2).toNat * 3)).off + 1, none⟩ = some (.int .i64 ((rd_T29 l1 x7_2).f0.f1)) ∧ w'.cell? ⟨(ad244.add ((x7_2).toNat * 3)).block, (ad244.add ((x7_2).toNat * 3)).off + 2, none⟩ = some (.int .i64 ((rd_T29 l1 x7_2).f1))) ∧ (Kd.R (Kd.int .i64) 3 w' w.heap.size (fun k_ => some k_ ≠ (.slice Ao46 x5_3.length co46 : Value).ownBlock) s_.1 t246) ∧ (Kd.R (Kd.int .i64) 3 w' w.heap.size (fun k_ => some k_ ≠ (s_.1 : Value).ownBlock) (.slice Ao46 x5_3.length co46) x5_3) ∧ (w'.heap[s_.2]? = some (.cells #[.int .i64 0, .slice none 0 0] 167 (0, 0))) ∧ (w.heap.size ≤ s_.2) ∧ (w.heap.size ≤ s_.2) ∧ (Below w.heap.size w w')) ?_ ?_
             rotate_left
             ·intro hCont
              refine two_ (i := 10) (j := 11) (Ni := some 36) (Nj := some 9) #[true, true, true, true, true, true, true, true, true, true, true, false, false] #[true, true, true, true, true, true, true, true, true, true, false, true, false] rfl rfl rfl rfl (two_of HT_.out (by kernel_rfl)) (by decide) (by decide) (fun K hK => ?_) (fun K hK => ?_)
              ·skip
               refine goes_ Try.func142 (by kernel_rfl) rfl #[.slice (some ad244) l1.length c1, .slice Ao46 x5_3.length co46, .agg #[.int .i64 ((rd_T46 l0 x8_3).f0), .int .i64 ((rd_T46 l0 x8_3).f1.f0), .int .i64 ((rd_T46 l0 x8_3).f1.f1), .int .i64 ((rd_T46 l0 x8_3).f2), .int .i64 ((rd_T46 l0 x8_3).f3.f0), .int .i64 ((rd_T46 l0 x8_3).f3.f1), .int .i64 ((rd_T46 l0 x8_3).f4.f0), .int .i64 ((rd_T46 l0 x8_3).f4.f1), .int .i64 ((rd_T46 l0 x8_3).f5), .int .i64 ((rd_T46 l0 x8_3).f6)], .agg #[.int .i64 ((rd_T29 l1 x7_2).f0.f0), .int .i64 ((rd_T29 l1 x7_2).f0.f1), .int .i64 ((rd_T29 l1 x7_2).f1)]] (by rfl) rfl rfl (by (try simp only [List.map_toArray, List.map_cons, List.map_nil]); first | done | rfl | (simp only [List.length_drop, List.length_take]; rfl)) ?_
               with_reducible refine (spec_l19By.calls k3 _ _ l1 _ _ x5_3 ((rd_T46 l0 x8_3).f0) ((rd_T46 l0 x8_3).f1.f0) ((rd_T46 l0 x8_3).f1.f1) ((rd_T46 l0 x8_3).f2) ((rd_T46 l0 x8_3).f3.f0) ((rd_T46 l0 x8_3).f3.f1) ((rd_T46 l0 x8_3).f4.f0) ((rd_T46 l0 x8_3).f4.f1) ((rd_T46 l0 x8_3).f5) ((rd_T46 l0 x8_3).f6) ((rd_T29 l1 x7_2).f0.f0) ((rd_T29 l1 x7_2).f0.f1) ((rd_T29 l1 x7_2).f1) t245 t246 _ ?side1 ?side2 ?side3 ?side4 A13.out).mono ?_
               (case side1 => repeat (first | exact (Kd.C_below HR1.out HB.out) | (with_reducible refine Kd.C_alloc ?_ _) | (with_reducible refine Kd.C_drewN ?_ _) | (with_reducible refine Kd.C_drew ?_)))
               (case side2 => exact HC1.out)
               (case side3 => repeat (first | exact (Kd.R_reads' HO_5.out).2.2 | (with_reducible refine Kd.C_alloc ?_ _) | (with_reducible refine Kd.C_drewN ?_ _) | (with_reducible refine Kd.C_drew ?_)))
               (case side4 => exact (Kd.R_reads' HO_5.out).2.1)
               rintro e w48 ⟨v247, rfl, ho0, hb⟩
               refine ⟨_, rfl, ?_⟩
               have HO248 := Aside0.mk (Kd.R_lower (Kd.R_new' ho0 (Kd.R_lt (by (with_reducible repeat (first | apply Kd.R_alloc | apply Kd.R_drewN | apply Kd.R_drew)); exact HO_5.out))) bls_)
               replace HO_5 := Aside0.mk (Kd.R_elder' (by (with_reducible repeat (first | apply Kd.R_alloc | apply Kd.R_drewN | apply Kd.R_drew)); exact HO_5.out) (Kd.R_base ho0) hb)
               replace HB := hbs_ hb
               (try clear hb)
               (try clear hb2)
               (try clear hk)
               (try clear hi)
               (try clear ho0)
               refine hK.out _ _ ⟨(cb_ HB hw243_0 :), (cb_ HB hw243_1 :), (cb_ HB hw243_2 :), (cb_ HB hw243_3 :), (cb_ HB hw243_4 :), (cb_ HB hw243_5 :), (cb_ HB hw243_6 :), (cb_ HB hw243_7 :), (cb_ HB hw243_8 :), (cb_ HB hw243_9 :), (cb_ HB hw244_0 :), (cb_ HB hw244_1 :), (cb_ HB hw244_2 :)⟩ (fun hHeld => ?_)
               clear hK K
               refine norm_ (a' := ?_) ?_ ?_
               rotate_left
               ·show Act.put _ (some 36) _ = _
                simp only [Act.put, List.setIfInBounds_toArray, List.set_cons_zero, List.set_cons_succ, i64_w, i32_w]
                rfl
               refine one_ (i := 11) (N := some 9) #[true, true, true, true, true, true, true, true, true, true, true, true, false] rfl rfl (one_of HT_.out (by kernel_rfl)) (by decide) (fun K hK => ?_)
               refine box_step ?hg (N := 9) ?hd (cs := #[.int .i64 0, .slice none 0 0]) (t := 167) ?hr ?_; (case hd => rfl); (case hg => rfl); (case hr => first | (go_simp; done) | (go_simp; rfl))
               intro gb249 hg w49 hbox hb
               replace HO_5 := hob_ HO_5 hb
               replace HO248 := hob_ HO248 hb
               have BK249 := Aside0.mk (hbox)
               have GW249 := gs_ hg
               have GE249 := gs_ hg
               replace HB := hbs_ hb
               clear hb hbox hg
               refine hK.out _ _ ⟨(cb_ HB hw243_0 :), (cb_ HB hw243_1 :), (cb_ HB hw243_2 :), (cb_ HB hw243_3 :), (cb_ HB hw243_4 :), (cb_ HB hw243_5 :), (cb_ HB hw243_6 :), (cb_ HB hw243_7 :), (cb_ HB hw243_8 :), (cb_ HB hw243_9 :), (cb_ HB hw244_0 :), (cb_ HB hw244_1 :), (cb_ HB hw244_2 :)⟩ (fun hHeld => ?_)
               clear hK K
               refine norm_ (a' := ?_) ?_ ?_
               rotate_left
               ·show Act.put _ (some 9) _ = _
                simp only [Act.put, List.setIfInBounds_toArray, List.set_cons_zero, List.set_cons_succ, i64_w, i32_w]
                rfl
               exact norm_ (by simp only [putAll, Act.put, List.setIfInBounds_toArray, List.set_cons_zero, List.set_cons_succ]) (hCont (v247, gb249) _ ⟨hHeld, (by (with_reducible repeat (first | apply Kd.R_alloc | apply Kd.R_drewN | apply Kd.R_drew)); exact Kd.R_mono HO248.out (fun _ hk => hk.2)), (by (with_reducible repeat (first | apply Kd.R_alloc | apply Kd.R_drewN | apply Kd.R_drew)); exact Kd.R_mono HO_5.out (fun _ hk => hk.2)), (bk_ BK249), GW249.out, GE249.out, bl_⟩)
              ·skip
               refine box_step ?hg (N := 9) ?hd (cs := #[.int .i64 0, .slice none 0 0]) (t := 167) ?hr ?_; (case hd => rfl); (case hg => rfl); (case hr => first | (go_simp; done) | (go_simp; rfl))
               intro gb249 hg w48 hbox hb
               replace HO_5 := hob_ HO_5 hb
               have BK249 := Aside0.mk (hbox)
               have GW249 := gs_ hg
               have GE249 := gs_ hg
               replace HB := hbs_ hb
               clear hb hbox hg
               refine hK.out _ _ ⟨(cb_ HB hw243_0 :), (cb_ HB hw243_1 :), (cb_ HB hw243_2 :), (cb_ HB hw243_3 :), (cb_ HB hw243_4 :), (cb_ HB hw243_5 :), (cb_ HB hw243_6 :), (cb_ HB hw243_7 :), (cb_ HB hw243_8 :), (cb_ HB hw243_9 :), (cb_ HB hw244_0 :), (cb_ HB hw244_1 :), (cb_ HB hw244_2 :)⟩ (fun hHeld => ?_)
               clear hK K
               refine norm_ (a' := ?_) ?_ ?_
               rotate_left
               ·show Act.put _ (some 9) _ = _
                simp only [Act.put, List.setIfInBounds_toArray, List.set_cons_zero, List.set_cons_succ, i64_w, i32_w]
                rfl
               refine one_ (i := 10) (N := some 36) #[true, true, true, true, true, true, true, true, true, true, true, true, false] rfl rfl (one_of HT_.out (by kernel_rfl)) (by decide) (fun K hK => ?_)
               refine goes_ Try.func142 (by kernel_rfl) rfl #[.slice (some ad244) l1.length c1, .slice Ao46 x5_3.length co46, .agg #[.int .i64 ((rd_T46 l0 x8_3).f0), .int .i64 ((rd_T46 l0 x8_3).f1.f0), .int .i64 ((rd_T46 l0 x8_3).f1.f1), .int .i64 ((rd_T46 l0 x8_3).f2), .int .i64 ((rd_T46 l0 x8_3).f3.f0), .int .i64 ((rd_T46 l0 x8_3).f3.f1), .int .i64 ((rd_T46 l0 x8_3).f4.f0), .int .i64 ((rd_T46 l0 x8_3).f4.f1), .int .i64 ((rd_T46 l0 x8_3).f5), .int .i64 ((rd_T46 l0 x8_3).f6)], .agg #[.int .i64 ((rd_T29 l1 x7_2).f0.f0), .int .i64 ((rd_T29 l1 x7_2).f0.f1), .int .i64 ((rd_T29 l1 x7_2).f1)]] (by rfl) rfl rfl (by (try simp only [List.map_toArray, List.map_cons, List.map_nil]); first | done | rfl | (simp only [List.length_drop, List.length_take]; rfl)) ?_
               with_reducible refine (spec_l19By.calls k3 _ _ l1 _ _ x5_3 ((rd_T46 l0 x8_3).f0) ((rd_T46 l0 x8_3).f1.f0) ((rd_T46 l0 x8_3).f1.f1) ((rd_T46 l0 x8_3).f2) ((rd_T46 l0 x8_3).f3.f0) ((rd_T46 l0 x8_3).f3.f1) ((rd_T46 l0 x8_3).f4.f0) ((rd_T46 l0 x8_3).f4.f1) ((rd_T46 l0 x8_3).f5) ((rd_T46 l0 x8_3).f6) ((rd_T29 l1 x7_2).f0.f0) ((rd_T29 l1 x7_2).f0.f1) ((rd_T29 l1 x7_2).f1) t245 t246 _ ?side1 ?side2 ?side3 ?side4 A13.out).mono ?_
               (case side1 => repeat (first | exact (Kd.C_below HR1.out HB.out) | (with_reducible refine Kd.C_alloc ?_ _) | (with_reducible refine Kd.C_drewN ?_ _) | (with_reducible refine Kd.C_drew ?_)))
               (case side2 => exact HC1.out)
               (case side3 => repeat (first | exact (Kd.R_reads' HO_5.out).2.2 | (with_reducible refine Kd.C_alloc ?_ _) | (with_reducible refine Kd.C_drewN ?_ _) | (with_reducible refine Kd.C_drew ?_)))
               (case side4 => exact (Kd.R_reads' HO_5.out).2.1)
               rintro e w49 ⟨v247, rfl, ho0, hb⟩
               refine ⟨_, rfl, ?_⟩
               have HO248 := Aside0.mk (Kd.R_lower (Kd.R_new' ho0 (Kd.R_lt (by (with_reducible repeat (first | apply Kd.R_alloc | apply Kd.R_drewN | apply Kd.R_drew)); exact HO_5.out))) bls_)
               replace HO_5 := Aside0.mk (Kd.R_elder' (by (with_reducible repeat (first | apply Kd.R_alloc | apply Kd.R_drewN | apply Kd.R_drew)); exact HO_5.out) (Kd.R_base ho0) hb)
               replace BK249 := bkb_ BK249 hb
               replace HB := hbs_ hb
               (try clear hb)
               (try clear hb2)
               (try clear hk)
               (try clear hi)
               (try clear ho0)
               refine hK.out _ _ ⟨(cb_ HB hw243_0 :), (cb_ HB hw243_1 :), (cb_ HB hw243_2 :), (cb_ HB hw243_3 :), (cb_ HB hw243_4 :), (cb_ HB hw243_5 :), (cb_ HB hw243_6 :), (cb_ HB hw243_7 :), (cb_ HB hw243_8 :), (cb_ HB hw243_9 :), (cb_ HB hw244_0 :), (cb_ HB hw244_1 :), (cb_ HB hw244_2 :)⟩ (fun hHeld => ?_)
               clear hK K
               refine norm_ (a' := ?_) ?_ ?_
               rotate_left
               ·show Act.put _ (some 36) _ = _
                simp only [Act.put, List.setIfInBounds_toArray, List.set_cons_zero, List.set_cons_succ, i64_w, i32_w]
                rfl
               exact norm_ (by simp only [putAll, Act.put, List.setIfInBounds_toArray, List.set_cons_zero, List.set_cons_succ]) (hCont (v247, gb249) _ ⟨hHeld, (by (with_reducible repeat (first | apply Kd.R_alloc | apply Kd.R_drewN | apply Kd.R_drew)); exact Kd.R_mono HO248.out (fun _ hk => hk.2)), (by (with_reducible repeat (first | apply Kd.R_alloc | apply Kd.R_drewN | apply Kd.R_drew)); exact Kd.R_mono HO_5.out (fun _ hk => hk.2)), (bk_ BK249), GW249.out, GE249.out, bl_⟩)
             rintro ⟨v247, gb249⟩ w50 ⟨hS_, h0_, h1_, h2_, h3_, h4_, h5_⟩
             have n0_ : Aside0 (Kd.R (Kd.int .i64) 3 w50 w.heap.size (fun k_ => some k_ ≠ (.slice Ao46 x5_3.length co46 : Value).ownBlock) v247 t246) := ⟨h0_⟩
             have n1_ : Aside0 (Kd.R (Kd.int .i64) 3 w50 w.heap.size (fun k_ => some k_ ≠ (v247 : Value).ownBlock) (.slice Ao46 x5_3.length co46) x5_3) := ⟨h1_⟩
             have n2_ : Aside0 (w50.heap[gb249]? = some (.cells #[.int .i64 0, .slice none 0 0] 167 (0, 0))) := ⟨h2_⟩
             have n3_ : Aside0 (w.heap.size ≤ gb249) := ⟨h3_⟩
             have n4_ : Aside0 (w.heap.size ≤ gb249) := ⟨h4_⟩
             have n5_ : Aside0 (Below w.heap.size w w50) := ⟨h5_⟩
             clear HO_5
             clear HB
             clear h0_ h1_ h2_ h3_ h4_ h5_
             have HO248 := n0_
             have HO_5 := n1_
             have BK249 := n2_
             have GW249 := n3_
             have GE249 := n4_
             have HB := n5_
             clear n0_ n1_ n2_ n3_ n4_ n5_
             have hHeld : w50.cell? (ad243.add ((x8_3).toNat * 10)) = some (.int .i64 ((rd_T46 l0 x8_3).f0)) ∧ w50.cell? ⟨(ad243.add ((x8_3).toNat * 10)).block, (ad243.add ((x8_3).toNat * 10)).off + 1, none⟩ = some (.int .i64 ((rd_T46 l0 x8_3).f1.f0)) ∧ w50.cell? ⟨(ad243.add ((x8_3).toNat * 10)).block, (ad243.add ((x8_3).toNat * 10)).off + 2, none⟩ = some (.int .i64 ((rd_T46 l0 x8_3).f1.f1)) ∧ w50.cell? ⟨(ad243.add ((x8_3).toNat * 10)).block, (ad243.add ((x8_3).toNat * 10)).off + 3, none⟩ = some (.int .i64 ((rd_T46 l0 x8_3).f2)) ∧ w50.cell? ⟨(ad243.add ((x8_3).toNat * 10)).block, (ad243.add ((x8_3).toNat * 10)).off + 4, none⟩ = some (.int .i64 ((rd_T46 l0 x8_3).f3.f0)) ∧ w50.cell? ⟨(ad243.add ((x8_3).toNat * 10)).block, (ad243.add ((x8_3).toNat * 10)).off + 5, none⟩ = some (.int .i64 ((rd_T46 l0 x8_3).f3.f1)) ∧ w50.cell? ⟨(ad243.add ((x8_3).toNat * 10)).block, (ad243.add ((x8_3).toNat * 10)).off + 6, none⟩ = some (.int .i64 ((rd_T46 l0 x8_3).f4.f0)) ∧ w50.cell? ⟨(ad243.add ((x8_3).toNat * 10)).block, (ad243.add ((x8_3).toNat * 10)).off + 7, none⟩ = some (.int .i64 ((rd_T46 l0 x8_3).f4.f1)) ∧ w50.cell? ⟨(ad243.add ((x8_3).toNat * 10)).block, (ad243.add ((x8_3).toNat * 10)).off + 8, none⟩ = some (.int .i64 ((rd_T46 l0 x8_3).f5)) ∧ w50.cell? ⟨(ad243.add ((x8_3).toNat * 10)).block, (ad243.add ((x8_3).toNat * 10)).off + 9, none⟩ = some (.int .i64 ((rd_T46 l0 x8_3).f6)) ∧ w50.cell? (ad244.add ((x7_2).toNat * 3)) = some (.int .i64 ((rd_T29 l1 x7_2).f0.f0)) ∧ w50.cell? ⟨(ad244.add ((x7_2).toNat * 3)).block, (ad244.add ((x7_2).toNat * 3)).off + 1, none⟩ = some (.int .i64 ((rd_T29 l1 x7_2).f0.f1)) ∧ w50.cell? ⟨(ad244.add ((x7_2).toNat * 3)).block, (ad244.add ((x7_2).toNat * 3)).off + 2, none⟩ = some (.int .i64 ((rd_T29 l1 x7_2).f1)) := hS_
             obtain ⟨Ao52, co52, eo52⟩ := Kd.R_slice HO248.out
             (first | subst eo52 | (injection eo52 with f1_ f2_ f3_; have f4_ := f1_.symm; have f5_ := f3_.symm; clear f1_ f2_ f3_; subst f4_; subst f5_))
             refine norm_ (a' := ?_) ?_ ?_
             rotate_left
             ·simp only [putAll, Act.put, List.setIfInBounds_toArray, List.set_cons_zero, List.set_cons_succ]
              rfl
             refine one_ (i := 12) (N := none) #[true, true, true, true, true, true, true, true, true, true, true, true, true] rfl rfl (one_of HT_.out (by kernel_rfl)) (by decide) (fun K hK => ?_)
             have hs51 : w50.cell? ⟨gb249, 0, none⟩ = some (.int .i64 0) := (blk_cell BK249.out 0).trans rfl
             have hfs51 := blk_frozen BK249.out 0
             have hs53 : w50.cell? ⟨gb249, 1, none⟩ = some (.slice none 0 0) := (blk_cell BK249.out 1).trans rfl
             have hfs53 := blk_frozen BK249.out 1
             refine skip_ (w1 := ?_) (by rfl) rfl ?_ ?_
             rotate_left
             ·go_simp
              rfl
             refine hK.out _ _ ⟨((cell_far (p := ⟨gb249, _, none⟩) (fb_ hw243_0 GW249.out) _).trans (((cell_far (p := ⟨gb249, _, none⟩) (fb_ hw243_0 GW249.out) _).trans (hHeld.1)))), ((cell_far (p := ⟨gb249, _, none⟩) (fb_ hw243_1 GW249.out) _).trans (((cell_far (p := ⟨gb249, _, none⟩) (fb_ hw243_1 GW249.out) _).trans (hHeld.2.1)))), ((cell_far (p := ⟨gb249, _, none⟩) (fb_ hw243_2 GW249.out) _).trans (((cell_far (p := ⟨gb249, _, none⟩) (fb_ hw243_2 GW249.out) _).trans (hHeld.2.2.1)))), ((cell_far (p := ⟨gb249, _, none⟩) (fb_ hw243_3 GW249.out) _).trans (((cell_far (p := ⟨gb249, _, none⟩) (fb_ hw243_3 GW249.out) _).trans (hHeld.2.2.2.1)))), ((cell_far (p := ⟨gb249, _, none⟩) (fb_ hw243_4 GW249.out) _).trans (((cell_far (p := ⟨gb249, _, none⟩) (fb_ hw243_4 GW249.out) _).trans (hHeld.2.2.2.2.1)))), ((cell_far (p := ⟨gb249, _, none⟩) (fb_ hw243_5 GW249.out) _).trans (((cell_far (p := ⟨gb249, _, none⟩) (fb_ hw243_5 GW249.out) _).trans (hHeld.2.2.2.2.2.1)))), ((cell_far (p := ⟨gb249, _, none⟩) (fb_ hw243_6 GW249.out) _).trans (((cell_far (p := ⟨gb249, _, none⟩) (fb_ hw243_6 GW249.out) _).trans (hHeld.2.2.2.2.2.2.1)))), ((cell_far (p := ⟨gb249, _, none⟩) (fb_ hw243_7 GW249.out) _).trans (((cell_far (p := ⟨gb249, _, none⟩) (fb_ hw243_7 GW249.out) _).trans (hHeld.2.2.2.2.2.2.2.1)))), ((cell_far (p := ⟨gb249, _, none⟩) (fb_ hw243_8 GW249.out) _).trans (((cell_far (p := ⟨gb249, _, none⟩) (fb_ hw243_8 GW249.out) _).trans (hHeld.2.2.2.2.2.2.2.2.1)))), ((cell_far (p := ⟨gb249, _, none⟩) (fb_ hw243_9 GW249.out) _).trans (((cell_far (p := ⟨gb249, _, none⟩) (fb_ hw243_9 GW249.out) _).trans (hHeld.2.2.2.2.2.2.2.2.2.1)))), ((cell_far (p := ⟨gb249, _, none⟩) (fb_ hw244_0 GW249.out) _).trans (((cell_far (p := ⟨gb249, _, none⟩) (fb_ hw244_0 GW249.out) _).trans (hHeld.2.2.2.2.2.2.2.2.2.2.1)))), ((cell_far (p := ⟨gb249, _, none⟩) (fb_ hw244_1 GW249.out) _).trans (((cell_far (p := ⟨gb249, _, none⟩) (fb_ hw244_1 GW249.out) _).trans (hHeld.2.2.2.2.2.2.2.2.2.2.2.1)))), ((cell_far (p := ⟨gb249, _, none⟩) (fb_ hw244_2 GW249.out) _).trans (((cell_far (p := ⟨gb249, _, none⟩) (fb_ hw244_2 GW249.out) _).trans (hHeld.2.2.2.2.2.2.2.2.2.2.2.2))))⟩ (fun hHeld => ?_)
             clear hK K
             refine done_ (done_of HT_.out (by kernel_rfl)) ?_
             try go_wp2
             have n0_ : Aside0 (Kd.R (Kd.int .i64) 3 ((w50.setCell ⟨gb249, 0, none⟩ (.int .i64 t245)).setCell ⟨gb249, 1, none⟩ (.slice Ao52 t246.length co52)) w.heap.size (fun k_ => some k_ ≠ (.slice Ao52 t246.length co52 : Value).ownBlock) (.slice Ao46 x5_3.length co46) x5_3) := ⟨by (with_reducible repeat (first | apply Kd.R_alloc | apply Kd.R_drewN | apply Kd.R_drew)); exact Kd.R_mono (Kd.R_far (p := ⟨gb249, 1, none⟩) (Kd.R_far (p := ⟨gb249, 0, none⟩) (Kd.R_types HO_5.out BK249.out (by decide)) (fun _ hk => hk.2) (.int .i64 t245)) (fun _ hk => hk.2) (.slice Ao52 t246.length co52)) (fun _ hk => hk.1)⟩
             have n1_ : Aside0 (Kd.R (Kd.int .i64) 3 ((w50.setCell ⟨gb249, 0, none⟩ (.int .i64 t245)).setCell ⟨gb249, 1, none⟩ (.slice Ao52 t246.length co52)) w.heap.size (fun k_ => some k_ ≠ (.slice Ao46 x5_3.length co46 : Value).ownBlock) (.slice Ao52 t246.length co52) t246) := ⟨by (with_reducible repeat (first | apply Kd.R_alloc | apply Kd.R_drewN | apply Kd.R_drew)); exact Kd.R_mono (Kd.R_far (p := ⟨gb249, 1, none⟩) (Kd.R_far (p := ⟨gb249, 0, none⟩) (Kd.R_types HO248.out BK249.out (by decide)) (fun _ hk => hk.2) (.int .i64 t245)) (fun _ hk => hk.2) (.slice Ao52 t246.length co52)) (fun _ hk => hk.1)⟩
             have n2_ : Aside0 (((w50.setCell ⟨gb249, 0, none⟩ (.int .i64 t245)).setCell ⟨gb249, 1, none⟩ (.slice Ao52 t246.length co52)).heap[gb249]? = some (.cells #[.int .i64 t245, .slice Ao52 t246.length co52] 167 (0, 0))) := ⟨bk_ BK249⟩
             have n3_ : Aside0 (Below w.heap.size w ((w50.setCell ⟨gb249, 0, none⟩ (.int .i64 t245)).setCell ⟨gb249, 1, none⟩ (.slice Ao52 t246.length co52))) := ⟨bl_⟩
             (try clear HO_5)
             (try clear HO248)
             (try clear BK249)
             (try clear HB)
             generalize ((w50.setCell ⟨gb249, 0, none⟩ (.int .i64 t245)).setCell ⟨gb249, 1, none⟩ (.slice Ao52 t246.length co52)) = w54 at n0_ n1_ n2_ n3_ ⊢
             have HO_5 := n0_
             have HO248 := n1_
             have BK249 := n2_
             have HB := n3_
             clear n0_ n1_ n2_ n3_
             replace HO_5 := Aside0.mk (Kd.R_drew HO_5.out)
             replace HO248 := Aside0.mk (Kd.R_drew HO248.out)
             replace BK249 := Aside0.mk (blk_drew BK249.out)
             replace HB := Aside0.mk (below_drew1 HB.out)
             have p250 : 0 ≤ (x7_2 : Int) := od_
             have q250 : x7_2 < (x5_3.length : Int) := od_
             obtain ⟨ad250, e250, hx250_0⟩ := Kd.at_int (Kd.R_reads' HO_5.out).2.2 x7_2 p250 q250
             cases e250
             replace p250 := eq_true p250
             replace q250 := eq_true q250
             have p252 : 0 ≤ (x7_2 : Int) := od_
             have q252 : x7_2 < (x5_3.length : Int) := od_
             obtain ⟨ad252, e252, hx252_0⟩ := Kd.at_int (Kd.R_reads' HO_5.out).2.2 x7_2 p252 q252
             obtain rfl : ad250 = ad252 := (by injection e252)
             replace p252 := eq_true p252
             replace q252 := eq_true q252
             refine start_ (n := 19) (S := fun w' => w'.cell? ⟨gb249, 0, none⟩ = some (.int .i64 t245) ∧ w'.cell? ⟨gb249, 1, none⟩ = some (.slice Ao52 t246.length co52) ∧ w'.cell? (ad250.add (x7_2).toNat) = some (.int .i64 (rd x5_3 x7_2)) ∧ w'.cell? (ad250.add (x7_2).toNat) = some (.int .i64 (rd x5_3 x7_2))) (ds := []) #[false, false, false, false, false, false, false, false, false, false, false, false, false, false, false, false, false, false, false] (by kernel_rfl) rfl rfl ⟨(blk_cell BK249.out 0).trans rfl, (blk_cell BK249.out 1).trans rfl, hx250_0, hx252_0⟩ (fun hHeld => ?_); refine with_tabW spec_l19Sizes.tab12 spec_l19Sizes.bits12 (fun HT_ HW_ => ?_)
             generalize w54.drew = w55 at HO_5 HO248 BK249 HB hx250_0 hx252_0 hHeld ⊢
             refine pureZ_ (i := 0) (some 37) #[true, false, false, false, false, false, false, false, false, false, false, false, false, false, false, false, false, false, false] (any_of HT_.out (by kernel_rfl)) ?_
             refine takeZ_ (i := 1) (some 38) #[true, true, false, false, false, false, false, false, false, false, false, false, false, false, false, false, false, false, false] (take_ofW HT_.out HW_.out (by kernel_rfl)) hHeld ?_
             refine pureZ_ (i := 2) (some 39) #[true, true, true, false, false, false, false, false, false, false, false, false, false, false, false, false, false, false, false] (any_of HT_.out (by kernel_rfl)) ?_
             refine pureZ_ (i := 3) (some 40) #[true, true, true, true, false, false, false, false, false, false, false, false, false, false, false, false, false, false, false] (any_of HT_.out (by kernel_rfl)) ?_
             refine pureZ_ (i := 4) (some 41) #[true, true, true, true, true, false, false, false, false, false, false, false, false, false, false, false, false, false, false] (any_of HT_.out (by kernel_rfl)) ?_
             refine pureZ_ (i := 5) (some 42) #[true, true, true, true, true, true, false, false, false, false, false, false, false, false, false, false, false, false, false] (any_of HT_.out (by kernel_rfl)) ?_
             refine pureZ_ (i := 6) (some 43) #[true, true, true, true, true, true, true, false, false, false, false, false, false, false, false, false, false, false, false] (any_of HT_.out (by kernel_rfl)) ?_
             refine takeZ_ (i := 7) (some 44) #[true, true, true, true, true, true, true, true, false, false, false, false, false, false, false, false, false, false, false] (take_ofW HT_.out HW_.out (by kernel_rfl)) hHeld ?_
             refine pureZ_ (i := 8) (some 45) #[true, true, true, true, true, true, true, true, true, false, false, false, false, false, false, false, false, false, false] (any_of HT_.out (by kernel_rfl)) ?_
             refine pureZ_ (i := 9) (some 46) #[true, true, true, true, true, true, true, true, true, true, false, false, false, false, false, false, false, false, false] (any_of HT_.out (by kernel_rfl)) ?_
             refine pureZ_ (i := 10) (some 47) #[true, true, true, true, true, true, true, true, true, true, true, false, false, false, false, false, false, false, false] (any_of HT_.out (by kernel_rfl)) ?_
             refine pureZ_ (i := 12) (some 49) #[true, true, true, true, true, true, true, true, true, true, true, false, true, false, false, false, false, false, false] (any_of HT_.out (by kernel_rfl)) ?_
             refine pureZ_ (i := 13) (some 50) #[true, true, true, true, true, true, true, true, true, true, true, false, true, true, false, false, false, false, false] (any_of HT_.out (by kernel_rfl)) ?_
             refine pureZ_ (i := 14) (some 51) #[true, true, true, true, true, true, true, true, true, true, true, false, true, true, true, false, false, false, false] (any_of HT_.out (by kernel_rfl)) ?_
             refine takeZ_ (i := 11) (some 48) #[true, true, true, true, true, true, true, true, true, true, true, true, true, true, true, false, false, false, false] (take_ofW HT_.out HW_.out (by kernel_rfl)) hHeld ?_
             refine takeZ_ (i := 15) (some 52) #[true, true, true, true, true, true, true, true, true, true, true, true, true, true, true, true, false, false, false] (take_ofW HT_.out HW_.out (by kernel_rfl)) hHeld ?_
             refine pureZ_ (i := 16) (some 53) #[true, true, true, true, true, true, true, true, true, true, true, true, true, true, true, true, true, false, false] (any_of HT_.out (by kernel_rfl)) ?_
             refine pureZ_ (i := 17) (some 54) #[true, true, true, true, true, true, true, true, true, true, true, true, true, true, true, true, true, true, false] (any_of HT_.out (by kernel_rfl)) ?_
             refine pureZ_ (i := 18) (some 55) #[true, true, true, true, true, true, true, true, true, true, true, true, true, true, true, true, true, true, true] (any_of HT_.out (by kernel_rfl)) ?_
             refine done_ (done_of HT_.out (by kernel_rfl)) ?_
             try go_wp2
             go_roundg k3
             case measure => have := HK1.out; have := HK2.out; have := HK3.out; omega
             case rel => exact ⟨(x5_3), (x6_3), (wrap64 (x8_3 + 1)), rf_, rf_, H', ⟨by have := HK1.out; have := HK2.out; have := HK3.out; omega⟩, ⟨by (with_reducible repeat (first | apply Kd.R_alloc | apply Kd.R_drewN | apply Kd.R_drew)); exact Kd.R_mono HO_5.out (fun _ hk => trivial)⟩, ⟨bl_⟩⟩
          ·rw [if_neg c14] at H
           have c14b0 : decide (0 < t245) = false := decide_eq_false c14
           clear c14
           have H' := Aside0.mk H
           clear H
           obtain ⟨Ao56, co56, eo56⟩ := Kd.R_slice HO_5.out
           subst eo56
           try go_wp2
           replace HO_5 := Aside0.mk (Kd.R_drew HO_5.out)
           replace HB := Aside0.mk (below_drew1 HB.out)
           have p243 : 0 ≤ (x8_3 : Int) := od_
           have q243 : x8_3 < (l0.length : Int) := od_
           obtain ⟨ad243, e243, hx243_0, hx243_1, hx243_2, hx243_3, hx243_4, hx243_5, hx243_6, hx243_7, hx243_8, hx243_9⟩ := at_T46 HR0.out x8_3 p243 q243
           have hw243_9 := hx243_9
           have hw243_8 := hx243_8
           have hw243_7 := hx243_7
           have hw243_6 := hx243_6
           have hw243_5 := hx243_5
           have hw243_4 := hx243_4
           have hw243_3 := hx243_3
           have hw243_2 := hx243_2
           have hw243_1 := hx243_1
           have hw243_0 := hx243_0
           cases e243
           replace hx243_0 := cb_ HB hx243_0
           replace hx243_1 := cb_ HB hx243_1
           replace hx243_2 := cb_ HB hx243_2
           replace hx243_3 := cb_ HB hx243_3
           replace hx243_4 := cb_ HB hx243_4
           replace hx243_5 := cb_ HB hx243_5
           replace hx243_6 := cb_ HB hx243_6
           replace hx243_7 := cb_ HB hx243_7
           replace hx243_8 := cb_ HB hx243_8
           replace hx243_9 := cb_ HB hx243_9
           replace p243 := eq_true p243
           replace q243 := eq_true q243
           have p244 : 0 ≤ (x7_2 : Int) := od_
           have q244 : x7_2 < (l1.length : Int) := od_
           obtain ⟨ad244, e244, hx244_0, hx244_1, hx244_2⟩ := at_T29 HR1.out x7_2 p244 q244
           have hw244_2 := hx244_2
           have hw244_1 := hx244_1
           have hw244_0 := hx244_0
           cases e244
           replace hx244_0 := cb_ HB hx244_0
           replace hx244_1 := cb_ HB hx244_1
           replace hx244_2 := cb_ HB hx244_2
           replace p244 := eq_true p244
           replace q244 := eq_true q244
           refine start_ (n := 13) (S := fun w' => w'.cell? (ad243.add ((x8_3).toNat * 10)) = some (.int .i64 ((rd_T46 l0 x8_3).f0)) ∧ w'.cell? ⟨(ad243.add ((x8_3).toNat * 10)).block, (ad243.add ((x8_3).toNat * 10)).off + 1, none⟩ = some (.int .i64 ((rd_T46 l0 x8_3).f1.f0)) ∧ w'.cell? ⟨(ad243.add ((x8_3).toNat * 10)).block, (ad243.add ((x8_3).toNat * 10)).off + 2, none⟩ = some (.int .i64 ((rd_T46 l0 x8_3).f1.f1)) ∧ w'.cell? ⟨(ad243.add ((x8_3).toNat * 10)).block, (ad243.add ((x8_3).toNat * 10)).off + 3, none⟩ = some (.int .i64 ((rd_T46 l0 x8_3).f2)) ∧ w'.cell? ⟨(ad243.add ((x8_3).toNat * 10)).block, (ad243.add ((x8_3).toNat * 10)).off + 4, none⟩ = some (.int .i64 ((rd_T46 l0 x8_3).f3.f0)) ∧ w'.cell? ⟨(ad243.add ((x8_3).toNat * 10)).block, (ad243.add ((x8_3).toNat * 10)).off + 5, none⟩ = some (.int .i64 ((rd_T46 l0 x8_3).f3.f1)) ∧ w'.cell? ⟨(ad243.add ((x8_3).toNat * 10)).block, (ad243.add ((x8_3).toNat * 10)).off + 6, none⟩ = some (.int .i64 ((rd_T46 l0 x8_3).f4.f0)) ∧ w'.cell? ⟨(ad243.add ((x8_3).toNat * 10)).block, (ad243.add ((x8_3).toNat * 10)).off + 7, none⟩ = some (.int .i64 ((rd_T46 l0 x8_3).f4.f1)) ∧ w'.cell? ⟨(ad243.add ((x8_3).toNat * 10)).block, (ad243.add ((x8_3).toNat * 10)).off + 8, none⟩ = some (.int .i64 ((rd_T46 l0 x8_3).f5)) ∧ w'.cell? ⟨(ad243.add ((x8_3).toNat * 10)).block, (ad243.add ((x8_3).toNat * 10)).off + 9, none⟩ = some (.int .i64 ((rd_T46 l0 x8_3).f6)) ∧ w'.cell? (ad244.add ((x7_2).toNat * 3)) = some (.int .i64 ((rd_T29 l1 x7_2).f0.f0)) ∧ w'.cell? ⟨(ad244.add ((x7_2).toNat * 3)).block, (ad244.add ((x7_2).toNat * 3)).off + 1, none⟩ = some (.int .i64 ((rd_T29 l1 x7_2).f0.f1)) ∧ w'.cell? ⟨(ad244.add ((x7_2).toNat * 3)).block, (ad244.add ((x7_2).toNat * 3)).off + 2, none⟩ = some (.int .i64 ((rd_T29 l1 x7_2).f1))) (ds := []) #[false, false, false, false, false, false, false, false, false, false, false, false, false] (by kernel_rfl) rfl rfl ⟨(cb_ HB hw243_0 :), (cb_ HB hw243_1 :), (cb_ HB hw243_2 :), (cb_ HB hw243_3 :), (cb_ HB hw243_4 :), (cb_ HB hw243_5 :), (cb_ HB hw243_6 :), (cb_ HB hw243_7 :), (cb_ HB hw243_8 :), (cb_ HB hw243_9 :), (cb_ HB hw244_0 :), (cb_ HB hw244_1 :), (cb_ HB hw244_2 :)⟩ (fun hHeld => ?_); refine with_tabW spec_l19Sizes.tab11 spec_l19Sizes.bits11 (fun HT_ HW_ => ?_)
           generalize wr.drew = w57 at HO_5 HB hx243_0 hx243_1 hx243_2 hx243_3 hx243_4 hx243_5 hx243_6 hx243_7 hx243_8 hx243_9 hx244_0 hx244_1 hx244_2 hHeld ⊢
           refine pureZ_ (i := 0) (some 26) #[true, false, false, false, false, false, false, false, false, false, false, false, false] (any_of HT_.out (by kernel_rfl)) ?_
           refine pureZ_ (i := 1) (some 27) #[true, true, false, false, false, false, false, false, false, false, false, false, false] (any_of HT_.out (by kernel_rfl)) ?_
           refine pureZ_ (i := 2) (some 28) #[true, true, true, false, false, false, false, false, false, false, false, false, false] (any_of HT_.out (by kernel_rfl)) ?_
           refine pureZ_ (i := 3) (some 29) #[true, true, true, true, false, false, false, false, false, false, false, false, false] (any_of HT_.out (by kernel_rfl)) ?_
           refine pureZ_ (i := 4) (some 30) #[true, true, true, true, true, false, false, false, false, false, false, false, false] (any_of HT_.out (by kernel_rfl)) ?_
           refine pureZ_ (i := 6) (some 32) #[true, true, true, true, true, false, true, false, false, false, false, false, false] (any_of HT_.out (by kernel_rfl)) ?_
           refine pureZ_ (i := 7) (some 33) #[true, true, true, true, true, false, true, true, false, false, false, false, false] (any_of HT_.out (by kernel_rfl)) ?_
           refine pureZ_ (i := 8) (some 34) #[true, true, true, true, true, false, true, true, true, false, false, false, false] (any_of HT_.out (by kernel_rfl)) ?_
           refine takeZ_ (i := 5) (some 31) #[true, true, true, true, true, true, true, true, true, false, false, false, false] (take_ofW HT_.out HW_.out (by kernel_rfl)) hHeld ?_
           refine takeZ_ (i := 9) (some 35) #[true, true, true, true, true, true, true, true, true, true, false, false, false] (take_ofW HT_.out HW_.out (by kernel_rfl)) hHeld ?_
           refine join_ (σ := Value × Nat) 1 #[true, true, true, true, true, true, true, true, true, true, true, true, false] (fun s_ => [(36, .agg #[.int .i64 t245, s_.1]), (9, .pointer (some ⟨s_.2, 0, none⟩))]) (fun s_ w' => (w'.cell? (ad243.add ((x8_3).toNat * 10)) = some (.int .i64 ((rd_T46 l0 x8_3).f0)) ∧ w'.cell? ⟨(ad243.add ((x8_3).toNat * 10)).block, (ad243.add ((x8_3).toNat * 10)).off + 1, none⟩ = some (.int .i64 ((rd_T46 l0 x8_3).f1.f0)) ∧ w'.cell? ⟨(ad243.add ((x8_3).toNat * 10)).block, (ad243.add ((x8_3).toNat * 10)).off + 2, none⟩ = some (.int .i64 ((rd_T46 l0 x8_3).f1.f1)) ∧ w'.cell? ⟨(ad243.add ((x8_3).toNat * 10)).block, (ad243.add ((x8_3).toNat * 10)).off + 3, none⟩ = some (.int .i64 ((rd_T46 l0 x8_3).f2)) ∧ w'.cell? ⟨(ad243.add ((x8_3).toNat * 10)).block, (ad243.add ((x8_3).toNat * 10)).off + 4, none⟩ = some (.int .i64 ((rd_T46 l0 x8_3).f3.f0)) ∧ w'.cell? ⟨(ad243.add ((x8_3).toNat * 10)).block, (ad243.add ((x8_3).toNat * 10)).off + 5, none⟩ = some (.int .i64 ((rd_T46 l0 x8_3).f3.f1)) ∧ w'.cell? ⟨(ad243.add ((x8_3).toNat * 10)).block, (ad243.add ((x8_3).toNat * 10)).off + 6, none⟩ = some (.int .i64 ((rd_T46 l0 x8_3).f4.f0)) ∧ w'.cell? ⟨(ad243.add ((x8_3).toNat * 10)).block, (ad243.add ((x8_3).toNat * 10)).off + 7, none⟩ = some (.int .i64 ((rd_T46 l0 x8_3).f4.f1)) ∧ w'.cell? ⟨(ad243.add ((x8_3).toNat * 10)).block, (ad243.add ((x8_3).toNat * 10)).off + 8, none⟩ = some (.int .i64 ((rd_T46 l0 x8_3).f5)) ∧ w'.cell? ⟨(ad243.add ((x8_3).toNat * 10)).block, (ad243.add ((x8_3).toNat * 10)).off + 9, none⟩ = some (.int .i64 ((rd_T46 l0 x8_3).f6)) ∧ w'.cell? (ad244.add ((x7_2).toNat * 3)) = some (.int .i64 ((rd_T29 l1 x7_2).f0.f0)) ∧ w'.cell? ⟨(ad244.add ((x7_2).toNat * 3)).block, (ad244.add ((x7_2).toNat * 3)).off + 1, none⟩ = some (.int .i64 ((rd_T29 l1 x7_2).f0.f1)) ∧ w'.cell? ⟨(ad244.add ((x7_2).toNat * 3)).block, (ad244.add ((x7_2).toNat * 3)).off + 2, none⟩ = some (.int .i64 ((rd_T29 l1 x7_2).f1))) ∧ (Kd.R (Kd.int .i64) 3 w' w.heap.size (fun k_ => some k_ ≠ (.slice Ao56 x5_3.length co56 : Value).ownBlock) s_.1 t246) ∧ (Kd.R (Kd.int .i64) 3 w' w.heap.size (fun k_ => some k_ ≠ (s_.1 : Value).ownBlock) (.slice Ao56 x5_3.length co56) x5_3) ∧ (w'.heap[s_.2]? = some (.cells #[.int .i64 0, .slice none 0 0] 167 (0, 0))) ∧ (w.heap.size ≤ s_.2) ∧ (w.heap.size ≤ s_.2) ∧ (Below w.heap.size w w')) ?_ ?_
           rotate_left
           ·intro hCont
            refine two_ (i := 10) (j := 11) (Ni := some 36) (Nj := some 9) #[true, true, true, true, true, true, true, true, true, true, true, false, false] #[true, true, true, true, true, true, true, true, true, true, false, true, false] rfl rfl rfl rfl (two_of HT_.out (by kernel_rfl)) (by decide) (by decide) (fun K hK => ?_) (fun K hK => ?_)
            ·skip
             refine goes_ Try.func142 (by kernel_rfl) rfl #[.slice (some ad244) l1.length c1, .slice Ao56 x5_3.length co56, .agg #[.int .i64 ((rd_T46 l0 x8_3).f0), .int .i64 ((rd_T46 l0 x8_3).f1.f0), .int .i64 ((rd_T46 l0 x8_3).f1.f1), .int .i64 ((rd_T46 l0 x8_3).f2), .int .i64 ((rd_T46 l0 x8_3).f3.f0), .int .i64 ((rd_T46 l0 x8_3).f3.f1), .int .i64 ((rd_T46 l0 x8_3).f4.f0), .int .i64 ((rd_T46 l0 x8_3).f4.f1), .int .i64 ((rd_T46 l0 x8_3).f5), .int .i64 ((rd_T46 l0 x8_3).f6)], .agg #[.int .i64 ((rd_T29 l1 x7_2).f0.f0), .int .i64 ((rd_T29 l1 x7_2).f0.f1), .int .i64 ((rd_T29 l1 x7_2).f1)]] (by rfl) rfl rfl (by (try simp only [List.map_toArray, List.map_cons, List.map_nil]); first | done | rfl | (simp only [List.length_drop, List.length_take]; rfl)) ?_
             with_reducible refine (spec_l19By.calls k3 _ _ l1 _ _ x5_3 ((rd_T46 l0 x8_3).f0) ((rd_T46 l0 x8_3).f1.f0) ((rd_T46 l0 x8_3).f1.f1) ((rd_T46 l0 x8_3).f2) ((rd_T46 l0 x8_3).f3.f0) ((rd_T46 l0 x8_3).f3.f1) ((rd_T46 l0 x8_3).f4.f0) ((rd_T46 l0 x8_3).f4.f1) ((rd_T46 l0 x8_3).f5) ((rd_T46 l0 x8_3).f6) ((rd_T29 l1 x7_2).f0.f0) ((rd_T29 l1 x7_2).f0.f1) ((rd_T29 l1 x7_2).f1) t245 t246 _ ?side1 ?side2 ?side3 ?side4 A13.out).mono ?_
             (case side1 => repeat (first | exact (Kd.C_below HR1.out HB.out) | (with_reducible refine Kd.C_alloc ?_ _) | (with_reducible refine Kd.C_drewN ?_ _) | (with_reducible refine Kd.C_drew ?_)))
             (case side2 => exact HC1.out)
             (case side3 => repeat (first | exact (Kd.R_reads' HO_5.out).2.2 | (with_reducible refine Kd.C_alloc ?_ _) | (with_reducible refine Kd.C_drewN ?_ _) | (with_reducible refine Kd.C_drew ?_)))
             (case side4 => exact (Kd.R_reads' HO_5.out).2.1)
             rintro e w58 ⟨v247, rfl, ho0, hb⟩
             refine ⟨_, rfl, ?_⟩
             have HO248 := Aside0.mk (Kd.R_lower (Kd.R_new' ho0 (Kd.R_lt (by (with_reducible repeat (first | apply Kd.R_alloc | apply Kd.R_drewN | apply Kd.R_drew)); exact HO_5.out))) bls_)
             replace HO_5 := Aside0.mk (Kd.R_elder' (by (with_reducible repeat (first | apply Kd.R_alloc | apply Kd.R_drewN | apply Kd.R_drew)); exact HO_5.out) (Kd.R_base ho0) hb)
             replace HB := hbs_ hb
             (try clear hb)
             (try clear hb2)
             (try clear hk)
             (try clear hi)
             (try clear ho0)
             refine hK.out _ _ ⟨(cb_ HB hw243_0 :), (cb_ HB hw243_1 :), (cb_ HB hw243_2 :), (cb_ HB hw243_3 :), (cb_ HB hw243_4 :), (cb_ HB hw243_5 :), (cb_ HB hw243_6 :), (cb_ HB hw243_7 :), (cb_ HB hw243_8 :), (cb_ HB hw243_9 :), (cb_ HB hw244_0 :), (cb_ HB hw244_1 :), (cb_ HB hw244_2 :)⟩ (fun hHeld => ?_)
             clear hK K
             refine norm_ (a' := ?_) ?_ ?_
             rotate_left
             ·show Act.put _ (some 36) _ = _
              simp only [Act.put, List.setIfInBounds_toArray, List.set_cons_zero, List.set_cons_succ, i64_w, i32_w]
              rfl
             refine one_ (i := 11) (N := some 9) #[true, true, true, true, true, true, true, true, true, true, true, true, false] rfl rfl (one_of HT_.out (by kernel_rfl)) (by decide) (fun K hK => ?_)
             refine box_step ?hg (N := 9) ?hd (cs := #[.int .i64 0, .slice none 0 0]) (t := 167) ?hr ?_; (case hd => rfl); (case hg => rfl); (case hr => first | (go_simp; done) | (go_simp; rfl))
             intro gb249 hg w59 hbox hb
             replace HO_5 := hob_ HO_5 hb
             replace HO248 := hob_ HO248 hb
             have BK249 := Aside0.mk (hbox)
             have GW249 := gs_ hg
             have GE249 := gs_ hg
             replace HB := hbs_ hb
             clear hb hbox hg
             refine hK.out _ _ ⟨(cb_ HB hw243_0 :), (cb_ HB hw243_1 :), (cb_ HB hw243_2 :), (cb_ HB hw243_3 :), (cb_ HB hw243_4 :), (cb_ HB hw243_5 :), (cb_ HB hw243_6 :), (cb_ HB hw243_7 :), (cb_ HB hw243_8 :), (cb_ HB hw243_9 :), (cb_ HB hw244_0 :), (cb_ HB hw244_1 :), (cb_ HB hw244_2 :)⟩ (fun hHeld => ?_)
             clear hK K
             refine norm_ (a' := ?_) ?_ ?_
             rotate_left
             ·show Act.put _ (some 9) _ = _
              simp only [Act.put, List.setIfInBounds_toArray, List.set_cons_zero, List.set_cons_succ, i64_w, i32_w]
              rfl
             exact norm_ (by simp only [putAll, Act.put, List.setIfInBounds_toArray, List.set_cons_zero, List.set_cons_succ]) (hCont (v247, gb249) _ ⟨hHeld, (by (with_reducible repeat (first | apply Kd.R_alloc | apply Kd.R_drewN | apply Kd.R_drew)); exact Kd.R_mono HO248.out (fun _ hk => hk.2)), (by (with_reducible repeat (first | apply Kd.R_alloc | apply Kd.R_drewN | apply Kd.R_drew)); exact Kd.R_mono HO_5.out (fun _ hk => hk.2)), (bk_ BK249), GW249.out, GE249.out, bl_⟩)
            ·skip
             refine box_step ?hg (N := 9) ?hd (cs := #[.int .i64 0, .slice none 0 0]) (t := 167) ?hr ?_; (case hd => rfl); (case hg => rfl); (case hr => first | (go_simp; done) | (go_simp; rfl))
             intro gb249 hg w58 hbox hb
             replace HO_5 := hob_ HO_5 hb
             have BK249 := Aside0.mk (hbox)
             have GW249 := gs_ hg
             have GE249 := gs_ hg
             replace HB := hbs_ hb
             clear hb hbox hg
             refine hK.out _ _ ⟨(cb_ HB hw243_0 :), (cb_ HB hw243_1 :), (cb_ HB hw243_2 :), (cb_ HB hw243_3 :), (cb_ HB hw243_4 :), (cb_ HB hw243_5 :), (cb_ HB hw243_6 :), (cb_ HB hw243_7 :), (cb_ HB hw243_8 :), (cb_ HB hw243_9 :), (cb_ HB hw244_0 :), (cb_ HB hw244_1 :), (cb_ HB hw244_2 :)⟩ (fun hHeld => ?_)
             clear hK K
             refine norm_ (a' := ?_) ?_ ?_
             rotate_left
             ·show Act.put _ (some 9) _ = _
              simp only [Act.put, List.setIfInBounds_toArray, List.set_cons_zero, List.set_cons_succ, i64_w, i32_w]
              rfl
             refine one_ (i := 10) (N := some 36) #[true, true, true, true, true, true, true, true, true, true, true, true, false] rfl rfl (one_of HT_.out (by kernel_rfl)) (by decide) (fun K hK => ?_)
             refine goes_ Try.func142 (by kernel_rfl) rfl #[.slice (some ad244) l1.length c1, .slice Ao56 x5_3.length co56, .agg #[.int .i64 ((rd_T46 l0 x8_3).f0), .int .i64 ((rd_T46 l0 x8_3).f1.f0), .int .i64 ((rd_T46 l0 x8_3).f1.f1), .int .i64 ((rd_T46 l0 x8_3).f2), .int .i64 ((rd_T46 l0 x8_3).f3.f0), .int .i64 ((rd_T46 l0 x8_3).f3.f1), .int .i64 ((rd_T46 l0 x8_3).f4.f0), .int .i64 ((rd_T46 l0 x8_3).f4.f1), .int .i64 ((rd_T46 l0 x8_3).f5), .int .i64 ((rd_T46 l0 x8_3).f6)], .agg #[.int .i64 ((rd_T29 l1 x7_2).f0.f0), .int .i64 ((rd_T29 l1 x7_2).f0.f1), .int .i64 ((rd_T29 l1 x7_2).f1)]] (by rfl) rfl rfl (by (try simp only [List.map_toArray, List.map_cons, List.map_nil]); first | done | rfl | (simp only [List.length_drop, List.length_take]; rfl)) ?_
             with_reducible refine (spec_l19By.calls k3 _ _ l1 _ _ x5_3 ((rd_T46 l0 x8_3).f0) ((rd_T46 l0 x8_3).f1.f0) ((rd_T46 l0 x8_3).f1.f1) ((rd_T46 l0 x8_3).f2) ((rd_T46 l0 x8_3).f3.f0) ((rd_T46 l0 x8_3).f3.f1) ((rd_T46 l0 x8_3).f4.f0) ((rd_T46 l0 x8_3).f4.f1) ((rd_T46 l0 x8_3).f5) ((rd_T46 l0 x8_3).f6) ((rd_T29 l1 x7_2).f0.f0) ((rd_T29 l1 x7_2).f0.f1) ((rd_T29 l1 x7_2).f1) t245 t246 _ ?side1 ?side2 ?side3 ?side4 A13.out).mono ?_
             (case side1 => repeat (first | exact (Kd.C_below HR1.out HB.out) | (with_reducible refine Kd.C_alloc ?_ _) | (with_reducible refine Kd.C_drewN ?_ _) | (with_reducible refine Kd.C_drew ?_)))
             (case side2 => exact HC1.out)
             (case side3 => repeat (first | exact (Kd.R_reads' HO_5.out).2.2 | (with_reducible refine Kd.C_alloc ?_ _) | (with_reducible refine Kd.C_drewN ?_ _) | (with_reducible refine Kd.C_drew ?_)))
             (case side4 => exact (Kd.R_reads' HO_5.out).2.1)
             rintro e w59 ⟨v247, rfl, ho0, hb⟩
             refine ⟨_, rfl, ?_⟩
             have HO248 := Aside0.mk (Kd.R_lower (Kd.R_new' ho0 (Kd.R_lt (by (with_reducible repeat (first | apply Kd.R_alloc | apply Kd.R_drewN | apply Kd.R_drew)); exact HO_5.out))) bls_)
             replace HO_5 := Aside0.mk (Kd.R_elder' (by (with_reducible repeat (first | apply Kd.R_alloc | apply Kd.R_drewN | apply Kd.R_drew)); exact HO_5.out) (Kd.R_base ho0) hb)
             replace BK249 := bkb_ BK249 hb
             replace HB := hbs_ hb
             (try clear hb)
             (try clear hb2)
             (try clear hk)
             (try clear hi)
             (try clear ho0)
             refine hK.out _ _ ⟨(cb_ HB hw243_0 :), (cb_ HB hw243_1 :), (cb_ HB hw243_2 :), (cb_ HB hw243_3 :), (cb_ HB hw243_4 :), (cb_ HB hw243_5 :), (cb_ HB hw243_6 :), (cb_ HB hw243_7 :), (cb_ HB hw243_8 :), (cb_ HB hw243_9 :), (cb_ HB hw244_0 :), (cb_ HB hw244_1 :), (cb_ HB hw244_2 :)⟩ (fun hHeld => ?_)
             clear hK K
             refine norm_ (a' := ?_) ?_ ?_
             rotate_left
             ·show Act.put _ (some 36) _ = _
              simp only [Act.put, List.setIfInBounds_toArray, List.set_cons_zero, List.set_cons_succ, i64_w, i32_w]
              rfl
             exact norm_ (by simp only [putAll, Act.put, List.setIfInBounds_toArray, List.set_cons_zero, List.set_cons_succ]) (hCont (v247, gb249) _ ⟨hHeld, (by (with_reducible repeat (first | apply Kd.R_alloc | apply Kd.R_drewN | apply Kd.R_drew)); exact Kd.R_mono HO248.out (fun _ hk => hk.2)), (by (with_reducible repeat (first | apply Kd.R_alloc | apply Kd.R_drewN | apply Kd.R_drew)); exact Kd.R_mono HO_5.out (fun _ hk => hk.2)), (bk_ BK249), GW249.out, GE249.out, bl_⟩)
           rintro ⟨v247, gb249⟩ w60 ⟨hS_, h0_, h1_, h2_, h3_, h4_, h5_⟩
           have n0_ : Aside0 (Kd.R (Kd.int .i64) 3 w60 w.heap.size (fun k_ => some k_ ≠ (.slice Ao56 x5_3.length co56 : Value).ownBlock) v247 t246) := ⟨h0_⟩
           have n1_ : Aside0 (Kd.R (Kd.int .i64) 3 w60 w.heap.size (fun k_ => some k_ ≠ (v247 : Value).ownBlock) (.slice Ao56 x5_3.length co56) x5_3) := ⟨h1_⟩
           have n2_ : Aside0 (w60.heap[gb249]? = some (.cells #[.int .i64 0, .slice none 0 0] 167 (0, 0))) := ⟨h2_⟩
           have n3_ : Aside0 (w.heap.size ≤ gb249) := ⟨h3_⟩
           have n4_ : Aside0 (w.heap.size ≤ gb249) := ⟨h4_⟩
           have n5_ : Aside0 (Below w.heap.size w w60) := ⟨h5_⟩
           clear HO_5
           clear HB
           clear h0_ h1_ h2_ h3_ h4_ h5_
           have HO248 := n0_
           have HO_5 := n1_
           have BK249 := n2_
           have GW249 := n3_
           have GE249 := n4_
           have HB := n5_
           clear n0_ n1_ n2_ n3_ n4_ n5_
           have hHeld : w60.cell? (ad243.add ((x8_3).toNat * 10)) = some (.int .i64 ((rd_T46 l0 x8_3).f0)) ∧ w60.cell? ⟨(ad243.add ((x8_3).toNat * 10)).block, (ad243.add ((x8_3).toNat * 10)).off + 1, none⟩ = some (.int .i64 ((rd_T46 l0 x8_3).f1.f0)) ∧ w60.cell? ⟨(ad243.add ((x8_3).toNat * 10)).block, (ad243.add ((x8_3).toNat * 10)).off + 2, none⟩ = some (.int .i64 ((rd_T46 l0 x8_3).f1.f1)) ∧ w60.cell? ⟨(ad243.add ((x8_3).toNat * 10)).block, (ad243.add ((x8_3).toNat * 10)).off + 3, none⟩ = some (.int .i64 ((rd_T46 l0 x8_3).f2)) ∧ w60.cell? ⟨(ad243.add ((x8_3).toNat * 10)).block, (ad243.add ((x8_3).toNat * 10)).off + 4, none⟩ = some (.int .i64 ((rd_T46 l0 x8_3).f3.f0)) ∧ w60.cell? ⟨(ad243.add ((x8_3).toNat * 10)).block, (ad243.add ((x8_3).toNat * 10)).off + 5, none⟩ = some (.int .i64 ((rd_T46 l0 x8_3).f3.f1)) ∧ w60.cell? ⟨(ad243.add ((x8_3).toNat * 10)).block, (ad243.add ((x8_3).toNat * 10)).off + 6, none⟩ = some (.int .i64 ((rd_T46 l0 x8_3).f4.f0)) ∧ w60.cell? ⟨(ad243.add ((x8_3).toNat * 10)).block, (ad243.add ((x8_3).toNat * 10)).off + 7, none⟩ = some (.int .i64 ((rd_T46 l0 x8_3).f4.f1)) ∧ w60.cell? ⟨(ad243.add ((x8_3).toNat * 10)).block, (ad243.add ((x8_3).toNat * 10)).off + 8, none⟩ = some (.int .i64 ((rd_T46 l0 x8_3).f5)) ∧ w60.cell? ⟨(ad243.add ((x8_3).toNat * 10)).block, (ad243.add ((x8_3).toNat * 10)).off + 9, none⟩ = some (.int .i64 ((rd_T46 l0 x8_3).f6)) ∧ w60.cell? (ad244.add ((x7_2).toNat * 3)) = some (.int .i64 ((rd_T29 l1 x7_2).f0.f0)) ∧ w60.cell? ⟨(ad244.add ((x7_2).toNat * 3)).block, (ad244.add ((x7_2).toNat * 3)).off + 1, none⟩ = some (.int .i64 ((rd_T29 l1 x7_2).f0.f1)) ∧ w60.cell? ⟨(ad244.add ((x7_2).toNat * 3)).block, (ad244.add ((x7_2).toNat * 3)).off + 2, none⟩ = some (.int .i64 ((rd_T29 l1 x7_2).f1)) := hS_
           obtain ⟨Ao62, co62, eo62⟩ := Kd.R_slice HO248.out
           (first | subst eo62 | (injection eo62 with f1_ f2_ f3_; have f4_ := f1_.symm; have f5_ := f3_.symm; clear f1_ f2_ f3_; subst f4_; subst f5_))
           refine norm_ (a' := ?_) ?_ ?_
           rotate_left
           ·simp only [putAll, Act.put, List.setIfInBounds_toArray, List.set_cons_zero, List.set_cons_succ]
            rfl
           refine one_ (i := 12) (N := none) #[true, true, true, true, true, true, true, true, true, true, true, true, true] rfl rfl (one_of HT_.out (by kernel_rfl)) (by decide) (fun K hK => ?_)
           have hs61 : w60.cell? ⟨gb249, 0, none⟩ = some (.int .i64 0) := (blk_cell BK249.out 0).trans rfl
           have hfs61 := blk_frozen BK249.out 0
           have hs63 : w60.cell? ⟨gb249, 1, none⟩ = some (.slice none 0 0) := (blk_cell BK249.out 1).trans rfl
           have hfs63 := blk_frozen BK249.out 1
           refine skip_ (w1 := ?_) (by rfl) rfl ?_ ?_
           rotate_left
           ·go_simp
            rfl
           refine hK.out _ _ ⟨((cell_far (p := ⟨gb249, _, none⟩) (fb_ hw243_0 GW249.out) _).trans (((cell_far (p := ⟨gb249, _, none⟩) (fb_ hw243_0 GW249.out) _).trans (hHeld.1)))), ((cell_far (p := ⟨gb249, _, none⟩) (fb_ hw243_1 GW249.out) _).trans (((cell_far (p := ⟨gb249, _, none⟩) (fb_ hw243_1 GW249.out) _).trans (hHeld.2.1)))), ((cell_far (p := ⟨gb249, _, none⟩) (fb_ hw243_2 GW249.out) _).trans (((cell_far (p := ⟨gb249, _, none⟩) (fb_ hw243_2 GW249.out) _).trans (hHeld.2.2.1)))), ((cell_far (p := ⟨gb249, _, none⟩) (fb_ hw243_3 GW249.out) _).trans (((cell_far (p := ⟨gb249, _, none⟩) (fb_ hw243_3 GW249.out) _).trans (hHeld.2.2.2.1)))), ((cell_far (p := ⟨gb249, _, none⟩) (fb_ hw243_4 GW249.out) _).trans (((cell_far (p := ⟨gb249, _, none⟩) (fb_ hw243_4 GW249.out) _).trans (hHeld.2.2.2.2.1)))), ((cell_far (p := ⟨gb249, _, none⟩) (fb_ hw243_5 GW249.out) _).trans (((cell_far (p := ⟨gb249, _, none⟩) (fb_ hw243_5 GW249.out) _).trans (hHeld.2.2.2.2.2.1)))), ((cell_far (p := ⟨gb249, _, none⟩) (fb_ hw243_6 GW249.out) _).trans (((cell_far (p := ⟨gb249, _, none⟩) (fb_ hw243_6 GW249.out) _).trans (hHeld.2.2.2.2.2.2.1)))), ((cell_far (p := ⟨gb249, _, none⟩) (fb_ hw243_7 GW249.out) _).trans (((cell_far (p := ⟨gb249, _, none⟩) (fb_ hw243_7 GW249.out) _).trans (hHeld.2.2.2.2.2.2.2.1)))), ((cell_far (p := ⟨gb249, _, none⟩) (fb_ hw243_8 GW249.out) _).trans (((cell_far (p := ⟨gb249, _, none⟩) (fb_ hw243_8 GW249.out) _).trans (hHeld.2.2.2.2.2.2.2.2.1)))), ((cell_far (p := ⟨gb249, _, none⟩) (fb_ hw243_9 GW249.out) _).trans (((cell_far (p := ⟨gb249, _, none⟩) (fb_ hw243_9 GW249.out) _).trans (hHeld.2.2.2.2.2.2.2.2.2.1)))), ((cell_far (p := ⟨gb249, _, none⟩) (fb_ hw244_0 GW249.out) _).trans (((cell_far (p := ⟨gb249, _, none⟩) (fb_ hw244_0 GW249.out) _).trans (hHeld.2.2.2.2.2.2.2.2.2.2.1)))), ((cell_far (p := ⟨gb249, _, none⟩) (fb_ hw244_1 GW249.out) _).trans (((cell_far (p := ⟨gb249, _, none⟩) (fb_ hw244_1 GW249.out) _).trans (hHeld.2.2.2.2.2.2.2.2.2.2.2.1)))), ((cell_far (p := ⟨gb249, _, none⟩) (fb_ hw244_2 GW249.out) _).trans (((cell_far (p := ⟨gb249, _, none⟩) (fb_ hw244_2 GW249.out) _).trans (hHeld.2.2.2.2.2.2.2.2.2.2.2.2))))⟩ (fun hHeld => ?_)
           clear hK K
           refine done_ (done_of HT_.out (by kernel_rfl)) ?_
           try go_wp2
           have n0_ : Aside0 (Kd.R (Kd.int .i64) 3 ((w60.setCell ⟨gb249, 0, none⟩ (.int .i64 t245)).setCell ⟨gb249, 1, none⟩ (.slice Ao62 t246.length co62)) w.heap.size (fun k_ => some k_ ≠ (.slice Ao62 t246.length co62 : Value).ownBlock) (.slice Ao56 x5_3.length co56) x5_3) := ⟨by (with_reducible repeat (first | apply Kd.R_alloc | apply Kd.R_drewN | apply Kd.R_drew)); exact Kd.R_mono (Kd.R_far (p := ⟨gb249, 1, none⟩) (Kd.R_far (p := ⟨gb249, 0, none⟩) (Kd.R_types HO_5.out BK249.out (by decide)) (fun _ hk => hk.2) (.int .i64 t245)) (fun _ hk => hk.2) (.slice Ao62 t246.length co62)) (fun _ hk => hk.1)⟩
           have n1_ : Aside0 (Kd.R (Kd.int .i64) 3 ((w60.setCell ⟨gb249, 0, none⟩ (.int .i64 t245)).setCell ⟨gb249, 1, none⟩ (.slice Ao62 t246.length co62)) w.heap.size (fun k_ => some k_ ≠ (.slice Ao56 x5_3.length co56 : Value).ownBlock) (.slice Ao62 t246.length co62) t246) := ⟨by (with_reducible repeat (first | apply Kd.R_alloc | apply Kd.R_drewN | apply Kd.R_drew)); exact Kd.R_mono (Kd.R_far (p := ⟨gb249, 1, none⟩) (Kd.R_far (p := ⟨gb249, 0, none⟩) (Kd.R_types HO248.out BK249.out (by decide)) (fun _ hk => hk.2) (.int .i64 t245)) (fun _ hk => hk.2) (.slice Ao62 t246.length co62)) (fun _ hk => hk.1)⟩
           have n2_ : Aside0 (((w60.setCell ⟨gb249, 0, none⟩ (.int .i64 t245)).setCell ⟨gb249, 1, none⟩ (.slice Ao62 t246.length co62)).heap[gb249]? = some (.cells #[.int .i64 t245, .slice Ao62 t246.length co62] 167 (0, 0))) := ⟨bk_ BK249⟩
           have n3_ : Aside0 (Below w.heap.size w ((w60.setCell ⟨gb249, 0, none⟩ (.int .i64 t245)).setCell ⟨gb249, 1, none⟩ (.slice Ao62 t246.length co62))) := ⟨bl_⟩
           (try clear HO_5)
           (try clear HO248)
           (try clear BK249)
           (try clear HB)
           generalize ((w60.setCell ⟨gb249, 0, none⟩ (.int .i64 t245)).setCell ⟨gb249, 1, none⟩ (.slice Ao62 t246.length co62)) = w64 at n0_ n1_ n2_ n3_ ⊢
           have HO_5 := n0_
           have HO248 := n1_
           have BK249 := n2_
           have HB := n3_
           clear n0_ n1_ n2_ n3_
           replace HO_5 := Aside0.mk (Kd.R_drew HO_5.out)
           replace HO248 := Aside0.mk (Kd.R_drew HO248.out)
           replace BK249 := Aside0.mk (blk_drew BK249.out)
           replace HB := Aside0.mk (below_drew1 HB.out)
           refine start_ (n := 19) (S := fun w' => w'.cell? ⟨gb249, 0, none⟩ = some (.int .i64 t245) ∧ w'.cell? ⟨gb249, 1, none⟩ = some (.slice Ao62 t246.length co62)) (ds := []) #[false, false, false, false, false, false, false, false, false, false, false, false, false, false, false, false, false, false, false] (by kernel_rfl) rfl rfl ⟨(blk_cell BK249.out 0).trans rfl, (blk_cell BK249.out 1).trans rfl⟩ (fun hHeld => ?_); refine with_tabW spec_l19Sizes.tab12 spec_l19Sizes.bits12 (fun HT_ HW_ => ?_)
           generalize w64.drew = w65 at HO_5 HO248 BK249 HB hHeld ⊢
           refine pureZ_ (i := 0) (some 37) #[true, false, false, false, false, false, false, false, false, false, false, false, false, false, false, false, false, false, false] (any_of HT_.out (by kernel_rfl)) ?_
           refine takeZ_ (i := 1) (some 38) #[true, true, false, false, false, false, false, false, false, false, false, false, false, false, false, false, false, false, false] (take_ofW HT_.out HW_.out (by kernel_rfl)) hHeld ?_
           refine pureZ_ (i := 2) (some 39) #[true, true, true, false, false, false, false, false, false, false, false, false, false, false, false, false, false, false, false] (any_of HT_.out (by kernel_rfl)) ?_
           refine pureZ_ (i := 3) (some 40) #[true, true, true, true, false, false, false, false, false, false, false, false, false, false, false, false, false, false, false] (any_of HT_.out (by kernel_rfl)) ?_
           refine pure_ (i := 4) (N := some 41) (v := undef) (a' := ?_) #[true, true, true, true, true, false, false, false, false, false, false, false, false, false, false, false, false, false, false] rfl rfl (any_of HT_.out (by kernel_rfl)) (fun _ _ _ h => h) (Or.inr ⟨by rfl, rfl⟩) ?_ ?_
           rotate_left
           ·simp only [Act.put, List.setIfInBounds_toArray, List.set_cons_zero, List.set_cons_succ, i64_w, i32_w]
            rfl
           refine pure_ (i := 5) (N := some 42) (v := undef) (a' := ?_) #[true, true, true, true, true, true, false, false, false, false, false, false, false, false, false, false, false, false, false] rfl rfl (any_of HT_.out (by kernel_rfl)) (fun _ _ _ h => h) (Or.inr ⟨by rfl, rfl⟩) ?_ ?_
           rotate_left
           ·simp only [Act.put, List.setIfInBounds_toArray, List.set_cons_zero, List.set_cons_succ, i64_w, i32_w]
            rfl
           refine pure_ (i := 6) (N := some 43) (v := undef) (a' := ?_) #[true, true, true, true, true, true, true, false, false, false, false, false, false, false, false, false, false, false, false] rfl rfl (any_of HT_.out (by kernel_rfl)) (fun _ _ _ h => h) (Or.inr ⟨by rfl, rfl⟩) ?_ ?_
           rotate_left
           ·simp only [Act.put, List.setIfInBounds_toArray, List.set_cons_zero, List.set_cons_succ, i64_w, i32_w]
            rfl
           refine pure_ (i := 7) (N := some 44) (v := undef) (a' := ?_) #[true, true, true, true, true, true, true, true, false, false, false, false, false, false, false, false, false, false, false] rfl rfl (any_of HT_.out (by kernel_rfl)) (fun _ _ _ h => h) (Or.inr ⟨by rfl, rfl⟩) ?_ ?_
           rotate_left
           ·simp only [Act.put, List.setIfInBounds_toArray, List.set_cons_zero, List.set_cons_succ, i64_w, i32_w]
            rfl
           refine pure_ (i := 8) (N := some 45) (v := undef) (a' := ?_) #[true, true, true, true, true, true, true, true, true, false, false, false, false, false, false, false, false, false, false] rfl rfl (any_of HT_.out (by kernel_rfl)) (fun _ _ _ h => h) (Or.inr ⟨by rfl, rfl⟩) ?_ ?_
           rotate_left
           ·simp only [Act.put, List.setIfInBounds_toArray, List.set_cons_zero, List.set_cons_succ, i64_w, i32_w]
            rfl
           refine pure_ (i := 9) (N := some 46) (v := undef) (a' := ?_) #[true, true, true, true, true, true, true, true, true, true, false, false, false, false, false, false, false, false, false] rfl rfl (any_of HT_.out (by kernel_rfl)) (fun _ _ _ h => h) (Or.inr ⟨by rfl, rfl⟩) ?_ ?_
           rotate_left
           ·simp only [Act.put, List.setIfInBounds_toArray, List.set_cons_zero, List.set_cons_succ, i64_w, i32_w]
            rfl
           refine pure_ (i := 10) (N := some 47) (v := undef) (a' := ?_) #[true, true, true, true, true, true, true, true, true, true, true, false, false, false, false, false, false, false, false] rfl rfl (any_of HT_.out (by kernel_rfl)) (fun _ _ _ h => h) (Or.inr ⟨by rfl, rfl⟩) ?_ ?_
           rotate_left
           ·simp only [Act.put, List.setIfInBounds_toArray, List.set_cons_zero, List.set_cons_succ, i64_w, i32_w]
            rfl
           refine pure_ (i := 11) (N := some 48) (v := undef) (a' := ?_) #[true, true, true, true, true, true, true, true, true, true, true, true, false, false, false, false, false, false, false] rfl rfl (any_of HT_.out (by kernel_rfl)) (fun _ _ _ h => h) (Or.inr ⟨by rfl, rfl⟩) ?_ ?_
           rotate_left
           ·simp only [Act.put, List.setIfInBounds_toArray, List.set_cons_zero, List.set_cons_succ, i64_w, i32_w]
            rfl
           refine pure_ (i := 12) (N := some 49) (v := undef) (a' := ?_) #[true, true, true, true, true, true, true, true, true, true, true, true, true, false, false, false, false, false, false] rfl rfl (any_of HT_.out (by kernel_rfl)) (fun _ _ _ h => h) (Or.inr ⟨by rfl, rfl⟩) ?_ ?_
           rotate_left
           ·simp only [Act.put, List.setIfInBounds_toArray, List.set_cons_zero, List.set_cons_succ, i64_w, i32_w]
            rfl
           refine pure_ (i := 13) (N := some 50) (v := undef) (a' := ?_) #[true, true, true, true, true, true, true, true, true, true, true, true, true, true, false, false, false, false, false] rfl rfl (any_of HT_.out (by kernel_rfl)) (fun _ _ _ h => h) (Or.inr ⟨by rfl, rfl⟩) ?_ ?_
           rotate_left
           ·simp only [Act.put, List.setIfInBounds_toArray, List.set_cons_zero, List.set_cons_succ, i64_w, i32_w]
            rfl
           refine pure_ (i := 14) (N := some 51) (v := undef) (a' := ?_) #[true, true, true, true, true, true, true, true, true, true, true, true, true, true, true, false, false, false, false] rfl rfl (any_of HT_.out (by kernel_rfl)) (fun _ _ _ h => h) (Or.inr ⟨by rfl, rfl⟩) ?_ ?_
           rotate_left
           ·simp only [Act.put, List.setIfInBounds_toArray, List.set_cons_zero, List.set_cons_succ, i64_w, i32_w]
            rfl
           refine pure_ (i := 15) (N := some 52) (v := undef) (a' := ?_) #[true, true, true, true, true, true, true, true, true, true, true, true, true, true, true, true, false, false, false] rfl rfl (any_of HT_.out (by kernel_rfl)) (fun _ _ _ h => h) (Or.inr ⟨by rfl, rfl⟩) ?_ ?_
           rotate_left
           ·simp only [Act.put, List.setIfInBounds_toArray, List.set_cons_zero, List.set_cons_succ, i64_w, i32_w]
            rfl
           refine pure_ (i := 16) (N := some 53) (v := undef) (a' := ?_) #[true, true, true, true, true, true, true, true, true, true, true, true, true, true, true, true, true, false, false] rfl rfl (any_of HT_.out (by kernel_rfl)) (fun _ _ _ h => h) (Or.inr ⟨by rfl, rfl⟩) ?_ ?_
           rotate_left
           ·simp only [Act.put, List.setIfInBounds_toArray, List.set_cons_zero, List.set_cons_succ, i64_w, i32_w]
            rfl
           refine pure_ (i := 17) (N := some 54) (v := undef) (a' := ?_) #[true, true, true, true, true, true, true, true, true, true, true, true, true, true, true, true, true, true, false] rfl rfl (any_of HT_.out (by kernel_rfl)) (fun _ _ _ h => h) (Or.inr ⟨by rfl, rfl⟩) ?_ ?_
           rotate_left
           ·simp only [Act.put, List.setIfInBounds_toArray, List.set_cons_zero, List.set_cons_succ, i64_w, i32_w]
            rfl
           refine pureZ_ (i := 18) (some 55) #[true, true, true, true, true, true, true, true, true, true, true, true, true, true, true, true, true, true, true] (any_of HT_.out (by kernel_rfl)) ?_
           refine done_ (done_of HT_.out (by kernel_rfl)) ?_
           try go_wp2
           go_roundg k3
           case measure => have := HK1.out; have := HK2.out; have := HK3.out; omega
           case rel => exact ⟨(x5_3), (x6_3), (wrap64 (x8_3 + 1)), rf_, rf_, H', ⟨by have := HK1.out; have := HK2.out; have := HK3.out; omega⟩, ⟨by (with_reducible repeat (first | apply Kd.R_alloc | apply Kd.R_drewN | apply Kd.R_drew)); exact Kd.R_mono HO_5.out (fun _ hk => trivial)⟩, ⟨bl_⟩⟩
         ·rw [if_neg c9] at H
          have c9b0 : decide (x8_3 < (l0.length : Int)) = false := decide_eq_false c9
          clear c9
          have H' := Aside0.mk H
          clear H
          go_wp2
          go_roundg k3
          case measure => have := HK1.out; have := HK2.out; have := HK3.out; omega
          case rel => exact ⟨(x5_3), (x6_3), (wrap64 (x7_2 + 1)), rf_, rf_, H', ⟨by have := HK1.out; have := HK2.out; have := HK3.out; omega⟩, ⟨by (with_reducible repeat (first | apply Kd.R_alloc | apply Kd.R_drewN | apply Kd.R_drew)); exact HO_5.out⟩, ⟨bl_⟩⟩
      ·rw [if_neg c8] at H
       have c8b0 : decide (x7_2 < (l1.length : Int)) = false := decide_eq_false c8
       clear c8
       have H' := Aside0.mk H
       clear H
       go_wp2
       go_roundg k2
       case measure => have := HK1.out; have := HK2.out; omega
       case rel => exact ⟨(x5_2), (x6_2), rf_, H', ⟨by have := HK1.out; have := HK2.out; omega⟩, ⟨by (with_reducible repeat (first | apply Kd.R_alloc | apply Kd.R_drewN | apply Kd.R_drew)); exact HO_5.out⟩, ⟨bl_⟩⟩
   ·replace c7 := Bool.eq_false_iff.mpr c7
    subst c7
    replace H := ite_f_ H
    obtain rfl := Option.some.inj H
    go_wp2
    go_ret
    exact ⟨_, eq_, by (with_reducible repeat (first | apply Kd.R_alloc | apply Kd.R_drewN | apply Kd.R_drew)); exact HO_5.out, bl_⟩
end Go.Proofs.Ytppdmcimddhbaaa.PG
