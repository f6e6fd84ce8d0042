import Derived.Test.YtamhfnedknjjbaaKTPBx16
-- printed by wip/tools
namespace Go.Proofs.Ytamhfnedknjjbaa.PB
open Go.RowKit Go.Proofs.YtamhfnedknjjbaaW.PrintWords Go.Proofs.YtamhfnedknjjbaaW.PrintLast Go.Proofs.YtamhfnedknjjbaaW.PrintMore
attribute [local go_sem] max2_int min2_int max_two min_two max_three min_three max_four min_four
set_option linter.unusedVariables false
set_option linter.unusedSimpArgs false
attribute [local go_sem high] eqA26
def spec_NeededFor.l0 : Nat → List (S49) → List (S49) → List (S26) → Int → Int → Int → Option ((List (S49)))
 | 0, _, _, _, _, _, _ => none
 | k + 1, x0, x5, x6, x7, x662000, x662001 => if x7 < (x0.length : Int) then (if 0 ≤ x7 then ((spec_CredOk.f k ((rd_T49 x0 x7).f0) ((rd_T49 x0 x7).f1.f0) ((rd_T49 x0 x7).f1.f1) ((rd_T49 x0 x7).f2) ((rd_T49 x0 x7).f3.f0) ((rd_T49 x0 x7).f3.f1) ((rd_T49 x0 x7).f4.f0) ((rd_T49 x0 x7).f4.f1) ((rd_T49 x0 x7).f5) ((rd_T49 x0 x7).f6)).bind fun t669 => (if t669 = true then (if (((rd_T49 x0 x7).f1.f0) == x662000 && (((rd_T49 x0 x7).f1.f1) == x662001)) = true then (if x5.length < 1759218604441 then (spec_NeededFor.l0 k x0 (x5 ++ [(⟨(rd_T49 x0 x7).f0, (⟨(rd_T49 x0 x7).f1.f0, (rd_T49 x0 x7).f1.f1⟩ : S26), (rd_T49 x0 x7).f2, (⟨(rd_T49 x0 x7).f3.f0, (rd_T49 x0 x7).f3.f1⟩ : S26), (⟨(rd_T49 x0 x7).f4.f0, (rd_T49 x0 x7).f4.f1⟩ : S26), (rd_T49 x0 x7).f5, (rd_T49 x0 x7).f6⟩ : S49)]) x6 (wrap64 (x7 + 1)) x662000 x662001) else (none)) else ((spec_l13Done.f k x6 ((rd_T49 x0 x7).f1.f0) ((rd_T49 x0 x7).f1.f1)).bind fun t676 => (if t676 = true then (if x5.length < 1759218604441 then (spec_NeededFor.l0 k x0 (x5 ++ [(⟨(rd_T49 x0 x7).f0, (⟨(rd_T49 x0 x7).f1.f0, (rd_T49 x0 x7).f1.f1⟩ : S26), (rd_T49 x0 x7).f2, (⟨(rd_T49 x0 x7).f3.f0, (rd_T49 x0 x7).f3.f1⟩ : S26), (⟨(rd_T49 x0 x7).f4.f0, (rd_T49 x0 x7).f4.f1⟩ : S26), (rd_T49 x0 x7).f5, (rd_T49 x0 x7).f6⟩ : S49)]) x6 (wrap64 (x7 + 1)) x662000 x662001) else (none)) else (spec_NeededFor.l0 k x0 x5 x6 (wrap64 (x7 + 1)) x662000 x662001)))) else (spec_NeededFor.l0 k x0 x5 x6 (wrap64 (x7 + 1)) x662000 x662001))) else (none)) else (some x5)
def spec_NeededFor.f (k : Nat) (l0 : List (S49)) (a1_0 : Int) (a1_1 : Int) : Option ((List (S49))) := (spec_ReachRoles.f k l0 a1_0 a1_1).bind fun t665 => (spec_NeededFor.l0 k l0 (([] : List (S49))) t665 0 a1_0 a1_1)
def spec_NeededFor.T6 : Bool × List (List Nat × List Nat) := (true, [([], []), ([], []), ([0, 1], [0, 1]), ([2], [2]), ([3], [3]), ([4, 4], [4]), ([5], [5]), ([5], [5]), ([6, 7, 5], [5, 6, 7]), ([8, 5], [5, 8]), ([9, 5], [5, 9]), ([5], [5]), ([10, 11, 5], [5, 10, 11]), ([12, 5, 5], [5, 12]), ([13], [13]), ([13], [13]), ([13], [13]), ([15, 16, 13], [13, 15, 16]), ([17, 13], [13, 17]), ([18, 13], [13, 18]), ([14, 19, 13, 13], [13, 14, 19]), ([13, 20, 5], [5, 13, 20]), ([5, 21], [5, 21])])
def spec_NeededFor.B6 : List Nat := [0, 0, 3, 7, 15, 31, 63, 63, 255, 511, 1023, 63, 4095, 8191, 16383, 16383, 16383, 114687, 245759, 507903, 1048575, 2097151, 4194303]
theorem spec_NeededFor.tab6 : rtab .any (opsOf Try.f18 6) = spec_NeededFor.T6 := by kernel_rfl
theorem spec_NeededFor.bits6 : waitsOk spec_NeededFor.T6.2 spec_NeededFor.B6 = true := by kernel_rfl
set_option maxHeartbeats 8000000 in
set_option maxRecDepth 100000 in
theorem spec_NeededFor.calls (k : Nat) (A0 : Option Addr) (c0 : Nat) (l0 : List (S49)) (a1_0 : Int) (a1_1 : Int) (r : List (S49)) (w : World) (hr0 : Kd.C k49 w A0 l0.length l0) (hc0 : l0.length ≤ c0) (h : spec_NeededFor.f k l0 a1_0 a1_1 = some r) :
  Calls Try.prog 18 #[.slice A0 l0.length c0, .agg #[.int .i64 a1_0, .int .i64 a1_1]] w fun e w' => ∃ v0_ : Value, e = .returned (v0_) ∧ Kd.R k49 49 w' w.heap.size (fun _ => True) v0_ r ∧ Below w.heap.size w w' := by
 have hu26 := Try.underlying26
 have hu49 := Try.underlying49
 have HR0 := Aside0.mk hr0
 have HC0 := Aside0.mk hc0
 clear hr0 hc0
 have HB := Aside0.mk (Below.refl w.heap.size w)
 have H : ((spec_ReachRoles.f k l0 a1_0 a1_1).bind fun t665 => (spec_NeededFor.l0 k l0 (([] : List (S49))) t665 0 a1_0 a1_1)) = some r := h
 clear h
 obtain ⟨y662, hy662⟩ : ∃ y_ : List (S49), y_ = (([] : List (S49))) := ⟨_, rfl⟩
 replace H : ((spec_ReachRoles.f k l0 a1_0 a1_1).bind fun t665 => (spec_NeededFor.l0 k l0 y662 t665 0 a1_0 a1_1)) = some r := rh_ hy662 H
 have Ny662 := Aside0.mk hy662
 clear hy662
 obtain ⟨t665, A3, H⟩ := bindE_ H
 have H' := Aside0.mk H
 clear H
 go_enter Try.func18, Try.ntmps18
 go_wp2_with (first | ((with_reducible refine gate_dst (N := 3) rfl ?_); refine box_event ?hg (N := 3) ?hd (cs := #[.int .i64 a1_0, .int .i64 a1_1]) (t := 26) ?hr ?_; (case hd => rfl); (case hg => rfl); (case hr => first | (go_simp; done) | (go_simp; rfl)); intro gb661 hg w4 hbox hb; have BK661 := Aside0.mk (hbox); have GW661 := gs_ hg; have GE661 := gs_ hg; replace HB := hbs_ hb; clear hb hbox hg) | ((with_reducible refine gate_dst (N := 8) rfl ?_); refine Kd.R_lit k49 _ 49 ?hg (N := 8) ?hd (xs := ([] : List (S49))) (inner := []) (ok := fun _ => True) (okp := fun _ => True) ?hr ?hp (fun _ hk => hk) trivial (Below.refl _ _) (Nat.le_refl _) (by simp) ?_; (case hd => rfl); (case hg => rfl); (case hr => first | (go_simp; done) | (go_simp; rfl)); (case hp => exact (Reps.none _ _)); intro v663 w5 ho6 hb hg_ hnew_; clear hg_ hnew_; (first | rw [← Ny662.out] at ho6 | (simp only [Int.reduceToNat] at ho6; rw [← Ny662.out] at ho6)); have HO664 := Aside0.mk (Kd.R_lower ho6 bls_); replace BK661 := bkb_ BK661 hb; replace HB := hbs_ hb; clear hb ho6; obtain ⟨hcz7, hfz7⟩ := bcf_ BK661) | ((with_reducible refine gate_callee (f := 13) rfl ?_); refine goesC_ (some 11) Try.func13 #[.slice A0 l0.length c0, .agg #[.int .i64 a1_0, .int .i64 a1_1]] ?_; (with_reducible refine (spec_ReachRoles.calls k _ _ l0 a1_0 a1_1 t665 _ ?side1 ?side2 A3.out).mono ?_); (case side1 => repeat (first | exact (Kd.C_below HR0.out HB.out) | (with_reducible refine Kd.C_alloc ?_ _) | (with_reducible refine Kd.C_drewN ?_ _) | (with_reducible refine Kd.C_drew ?_))); (case side2 => exact HC0.out); rintro e w8 ⟨v666, rfl, ho0, hb⟩; refine ⟨_, rfl, ?_⟩; replace HO664 := hob_ HO664 hb; have HO667 := Aside0.mk (Kd.R_lower (Kd.R_newB ho0 (g := gb661) (o := .cells #[.int .i64 a1_0, .int .i64 a1_1] 26 (0, 0)) (bk_ BK661)) bls_); replace BK661 := bkb_ BK661 hb; replace HB := hbs_ hb; (try clear hb ho0)))
 go_loopg [5, 7] k (fun kq v5 v7 w' => ∃ (x5_1 : List (S49)) (x7_1 : Int), v7 = .int .i64 x7_1 ∧ Aside0 (spec_NeededFor.l0 kq l0 x5_1 t665 x7_1 a1_0 a1_1 = some r) ∧ Aside0 (kq ≤ k) ∧ Aside0 (Kd.R k49 49 w' w.heap.size (fun _ => True) v5 x5_1) ∧ Aside0 (Kd.R k26 26 w' w.heap.size (fun k_ => k_ ≠ gb661) v666 t665) ∧ Aside0 (w'.heap[gb661]? = some (.cells #[.int .i64 a1_0, .int .i64 a1_1] 26 (0, 0))) ∧ Aside0 (Below w.heap.size w w'))
 case atStart => exact ⟨(y662), (0), rf_, H', ⟨Nat.le_refl _⟩, ⟨rr_ HO664⟩, ⟨by (with_reducible repeat (first | apply Kd.R_alloc | apply Kd.R_drewN | apply Kd.R_drew)); exact Kd.R_mono HO667.out (fun _ hk => hk.2)⟩, ⟨bk_ BK661⟩, ⟨bl_⟩⟩
 case round =>
  clear H'
  try clear c1
  try clear p2
  try clear hcz7
  try clear hfz7
  obtain ⟨x5_1, x7_1, rfl, HA, HK1, HO_5, HO_6, BK661, HB⟩ := hrel
  cases gk with
  | zero => exact absurd HA.out (by simp [spec_NeededFor.l0])
  | succ k1 =>
   have H := HA.out
   clear HA
   simp only [spec_NeededFor.l0] at H
   by_cases c9 : x7_1 < (l0.length : Int)
   ·rw [if_pos c9] at H
    have c9b0 : decide (x7_1 < (l0.length : Int)) = true := decide_eq_true c9
    clear c9
    obtain ⟨c10b0, H⟩ := ifd_ H
    obtain ⟨t669, A11, H⟩ := bindE_ H
    by_cases c12 : t669 = true
    ·subst c12
     replace H := ite_t_ H
     by_cases c13 : (((rd_T49 l0 x7_1).f1.f0) == a1_0 && (((rd_T49 l0 x7_1).f1.f1) == a1_1)) = true
     ·rw [if_pos c13] at H
      have c13b0 : (((rd_T49 l0 x7_1).f1.f0) == a1_0 && (((rd_T49 l0 x7_1).f1.f1) == a1_1)) = true := c13
      (try (have c13b1 : decide (((rd_T49 l0 x7_1).f1.f0) = a1_0 && (((rd_T49 l0 x7_1).f1.f1) == a1_1)) = true := by simpa using c13))
      (try (have c13b2 : (((rd_T49 l0 x7_1).f1.f0) == a1_0 && (((rd_T49 l0 x7_1).f1.f1) == a1_1)) = true := by simpa using c13))
      clear c13
      obtain ⟨c14, H⟩ := ifn_ H
      have LMc14 := Aside0.mk c14
      clear c14
      obtain ⟨y672, hy672⟩ : ∃ y_ : List (S49), y_ = (x5_1 ++ [(⟨(rd_T49 l0 x7_1).f0, (⟨(rd_T49 l0 x7_1).f1.f0, (rd_T49 l0 x7_1).f1.f1⟩ : S26), (rd_T49 l0 x7_1).f2, (⟨(rd_T49 l0 x7_1).f3.f0, (rd_T49 l0 x7_1).f3.f1⟩ : S26), (⟨(rd_T49 l0 x7_1).f4.f0, (rd_T49 l0 x7_1).f4.f1⟩ : S26), (rd_T49 l0 x7_1).f5, (rd_T49 l0 x7_1).f6⟩ : S49)]) := ⟨_, rfl⟩
      replace H : (spec_NeededFor.l0 k1 l0 y672 t665 (wrap64 (x7_1 + 1)) a1_0 a1_1) = some r := rh_ hy672 H
      have Ny672 := Aside0.mk hy672
      clear hy672
      have H' := Aside0.mk H
      clear H
      try go_wp2
      replace HO_5 := Aside0.mk (Kd.R_drew HO_5.out)
      replace HO_6 := Aside0.mk (Kd.R_drew HO_6.out)
      replace BK661 := Aside0.mk (blk_drew BK661.out)
      replace HB := Aside0.mk (below_drew1 HB.out)
      have p668 : 0 ≤ (x7_1 : Int) := od_
      have q668 : x7_1 < (l0.length : Int) := od_
      obtain ⟨ad668, e668, hx668_0, hx668_1, hx668_2, hx668_3, hx668_4, hx668_5, hx668_6, hx668_7, hx668_8, hx668_9⟩ := at_T49 HR0.out x7_1 p668 q668
      have hw668_9 := hx668_9
      have hw668_8 := hx668_8
      have hw668_7 := hx668_7
      have hw668_6 := hx668_6
      have hw668_5 := hx668_5
      have hw668_4 := hx668_4
      have hw668_3 := hx668_3
      have hw668_2 := hx668_2
      have hw668_1 := hx668_1
      have hw668_0 := hx668_0
      cases e668
      replace hx668_0 := cb_ HB hx668_0
      replace hx668_1 := cb_ HB hx668_1
      replace hx668_2 := cb_ HB hx668_2
      replace hx668_3 := cb_ HB hx668_3
      replace hx668_4 := cb_ HB hx668_4
      replace hx668_5 := cb_ HB hx668_5
      replace hx668_6 := cb_ HB hx668_6
      replace hx668_7 := cb_ HB hx668_7
      replace hx668_8 := cb_ HB hx668_8
      replace hx668_9 := cb_ HB hx668_9
      replace p668 := eq_true p668
      replace q668 := eq_true q668
      have p670 : 0 ≤ (x7_1 : Int) := od_
      have q670 : x7_1 < (l0.length : Int) := od_
      obtain ⟨ad670, e670, hx670_0, hx670_1, hx670_2, hx670_3, hx670_4, hx670_5, hx670_6, hx670_7, hx670_8, hx670_9⟩ := at_T49 HR0.out x7_1 p670 q670
      have hw670_9 := hx670_9
      have hw670_8 := hx670_8
      have hw670_7 := hx670_7
      have hw670_6 := hx670_6
      have hw670_5 := hx670_5
      have hw670_4 := hx670_4
      have hw670_3 := hx670_3
      have hw670_2 := hx670_2
      have hw670_1 := hx670_1
      have hw670_0 := hx670_0
      obtain rfl : ad668 = ad670 := (by injection e670)
      replace hx670_0 := cb_ HB hx670_0
      replace hx670_1 := cb_ HB hx670_1
      replace hx670_2 := cb_ HB hx670_2
      replace hx670_3 := cb_ HB hx670_3
      replace hx670_4 := cb_ HB hx670_4
      replace hx670_5 := cb_ HB hx670_5
      replace hx670_6 := cb_ HB hx670_6
      replace hx670_7 := cb_ HB hx670_7
      replace hx670_8 := cb_ HB hx670_8
      replace hx670_9 := cb_ HB hx670_9
      replace p670 := eq_true p670
      replace q670 := eq_true q670
      refine start_ (n := 23) (S := fun w' => w'.cell? ⟨gb661, 0, none⟩ = some (.int .i64 a1_0) ∧ w'.cell? ⟨gb661, 1, none⟩ = some (.int .i64 a1_1) ∧ w'.cell? (ad668.add ((x7_1).toNat * 10)) = some (.int .i64 ((rd_T49 l0 x7_1).f0)) ∧ w'.cell? ⟨(ad668.add ((x7_1).toNat * 10)).block, (ad668.add ((x7_1).toNat * 10)).off + 1, none⟩ = some (.int .i64 ((rd_T49 l0 x7_1).f1.f0)) ∧ w'.cell? ⟨(ad668.add ((x7_1).toNat * 10)).block, (ad668.add ((x7_1).toNat * 10)).off + 2, none⟩ = some (.int .i64 ((rd_T49 l0 x7_1).f1.f1)) ∧ w'.cell? ⟨(ad668.add ((x7_1).toNat * 10)).block, (ad668.add ((x7_1).toNat * 10)).off + 3, none⟩ = some (.int .i64 ((rd_T49 l0 x7_1).f2)) ∧ w'.cell? ⟨(ad668.add ((x7_1).toNat * 10)).block, (ad668.add ((x7_1).toNat * 10)).off + 4, none⟩ = some (.int .i64 ((rd_T49 l0 x7_1).f3.f0)) ∧ w'.cell? ⟨(ad668.add ((x7_1).toNat * 10)).block, (ad668.add ((x7_1).toNat * 10)).off + 5, none⟩ = some (.int .i64 ((rd_T49 l0 x7_1).f3.f1)) ∧ w'.cell? ⟨(ad668.add ((x7_1).toNat * 10)).block, (ad668.add ((x7_1).toNat * 10)).off + 6, none⟩ = some (.int .i64 ((rd_T49 l0 x7_1).f4.f0)) ∧ w'.cell? ⟨(ad668.add ((x7_1).toNat * 10)).block, (ad668.add ((x7_1).toNat * 10)).off + 7, none⟩ = some (.int .i64 ((rd_T49 l0 x7_1).f4.f1)) ∧ w'.cell? ⟨(ad668.add ((x7_1).toNat * 10)).block, (ad668.add ((x7_1).toNat * 10)).off + 8, none⟩ = some (.int .i64 ((rd_T49 l0 x7_1).f5)) ∧ w'.cell? ⟨(ad668.add ((x7_1).toNat * 10)).block, (ad668.add ((x7_1).toNat * 10)).off + 9, none⟩ = some (.int .i64 ((rd_T49 l0 x7_1).f6)) ∧ w'.cell? (ad668.add ((x7_1).toNat * 10)) = some (.int .i64 ((rd_T49 l0 x7_1).f0)) ∧ w'.cell? ⟨(ad668.add ((x7_1).toNat * 10)).block, (ad668.add ((x7_1).toNat * 10)).off + 1, none⟩ = some (.int .i64 ((rd_T49 l0 x7_1).f1.f0)) ∧ w'.cell? ⟨(ad668.add ((x7_1).toNat * 10)).block, (ad668.add ((x7_1).toNat * 10)).off + 2, none⟩ = some (.int .i64 ((rd_T49 l0 x7_1).f1.f1)) ∧ w'.cell? ⟨(ad668.add ((x7_1).toNat * 10)).block, (ad668.add ((x7_1).toNat * 10)).off + 3, none⟩ = some (.int .i64 ((rd_T49 l0 x7_1).f2)) ∧ w'.cell? ⟨(ad668.add ((x7_1).toNat * 10)).block, (ad668.add ((x7_1).toNat * 10)).off + 4, none⟩ = some (.int .i64 ((rd_T49 l0 x7_1).f3.f0)) ∧ w'.cell? ⟨(ad668.add ((x7_1).toNat * 10)).block, (ad668.add ((x7_1).toNat * 10)).off + 5, none⟩ = some (.int .i64 ((rd_T49 l0 x7_1).f3.f1)) ∧ w'.cell? ⟨(ad668.add ((x7_1).toNat * 10)).block, (ad668.add ((x7_1).toNat * 10)).off + 6, none⟩ = some (.int .i64 ((rd_T49 l0 x7_1).f4.f0)) ∧ w'.cell? ⟨(ad668.add ((x7_1).toNat * 10)).block, (ad668.add ((x7_1).toNat * 10)).off + 7, none⟩ = some (.int .i64 ((rd_T49 l0 x7_1).f4.f1)) ∧ w'.cell? ⟨(ad668.add ((x7_1).toNat * 10)).block, (ad668.add ((x7_1).toNat * 10)).off + 8, none⟩ = some (.int .i64 ((rd_T49 l0 x7_1).f5)) ∧ w'.cell? ⟨(ad668.add ((x7_1).toNat * 10)).block, (ad668.add ((x7_1).toNat * 10)).off + 9, none⟩ = some (.int .i64 ((rd_T49 l0 x7_1).f6))) (ds := []) #[false, false, false, false, false, false, false, false, false, false, false, false, false, false, false, false, false, false, false, false, false, false, false] (by kernel_rfl) rfl rfl ⟨(blk_cell BK661.out 0).trans rfl, (blk_cell BK661.out 1).trans rfl, (cb_ HB hw668_0 :), (cb_ HB hw668_1 :), (cb_ HB hw668_2 :), (cb_ HB hw668_3 :), (cb_ HB hw668_4 :), (cb_ HB hw668_5 :), (cb_ HB hw668_6 :), (cb_ HB hw668_7 :), (cb_ HB hw668_8 :), (cb_ HB hw668_9 :), (cb_ HB hw670_0 :), (cb_ HB hw670_1 :), (cb_ HB hw670_2 :), (cb_ HB hw670_3 :), (cb_ HB hw670_4 :), (cb_ HB hw670_5 :), (cb_ HB hw670_6 :), (cb_ HB hw670_7 :), (cb_ HB hw670_8 :), (cb_ HB hw670_9 :)⟩ (fun hHeld => ?_); refine with_tabW spec_NeededFor.tab6 spec_NeededFor.bits6 (fun HT_ HW_ => ?_)
      generalize wr.drew = w15 at HO_5 HO_6 BK661 HB hx668_0 hx668_1 hx668_2 hx668_3 hx668_4 hx668_5 hx668_6 hx668_7 hx668_8 hx668_9 hx670_0 hx670_1 hx670_2 hx670_3 hx670_4 hx670_5 hx670_6 hx670_7 hx670_8 hx670_9 hHeld ⊢
      refine pureZ_ (i := 0) (some 18) #[true, false, false, false, false, false, false, false, false, false, false, false, false, false, false, false, false, false, false, false, false, false, false] (ao_ HT_) ?_
      refine pureZ_ (i := 1) (some 19) #[true, true, false, false, false, false, false, false, false, false, false, false, false, false, false, false, false, false, false, false, false, false, false] (ao_ HT_) ?_
      refine pureZ_ (i := 2) (some 20) #[true, true, true, false, false, false, false, false, false, false, false, false, false, false, false, false, false, false, false, false, false, false, false] (ao_ HT_) ?_
      refine takeZ_ (i := 3) (some 21) #[true, true, true, true, false, false, false, false, false, false, false, false, false, false, false, false, false, false, false, false, false, false, false] (take_ofW HT_.out HW_.out (by kernel_rfl)) hHeld ?_
      refine one_ (i := 4) (N := some 22) #[true, true, true, true, true, false, false, false, false, false, false, false, false, false, false, false, false, false, false, false, false, false, false] rfl rfl (one_of HT_.out (by kernel_rfl)) (by decide) (fun K hK => ?_)
      refine goes_ Try.func34 (by kernel_rfl) rfl #[.agg #[.int .i64 ((rd_T49 l0 x7_1).f0), .int .i64 ((rd_T49 l0 x7_1).f1.f0), .int .i64 ((rd_T49 l0 x7_1).f1.f1), .int .i64 ((rd_T49 l0 x7_1).f2), .int .i64 ((rd_T49 l0 x7_1).f3.f0), .int .i64 ((rd_T49 l0 x7_1).f3.f1), .int .i64 ((rd_T49 l0 x7_1).f4.f0), .int .i64 ((rd_T49 l0 x7_1).f4.f1), .int .i64 ((rd_T49 l0 x7_1).f5), .int .i64 ((rd_T49 l0 x7_1).f6)]] (by rfl) rfl rfl (by (try simp only [List.map_toArray, List.map_cons, List.map_nil]); first | done | rfl | (simp only [List.length_drop, List.length_take]; rfl)) ?_
      with_reducible refine (spec_CredOk.calls k1 ((rd_T49 l0 x7_1).f0) ((rd_T49 l0 x7_1).f1.f0) ((rd_T49 l0 x7_1).f1.f1) ((rd_T49 l0 x7_1).f2) ((rd_T49 l0 x7_1).f3.f0) ((rd_T49 l0 x7_1).f3.f1) ((rd_T49 l0 x7_1).f4.f0) ((rd_T49 l0 x7_1).f4.f1) ((rd_T49 l0 x7_1).f5) ((rd_T49 l0 x7_1).f6) true _ A11.out).mono ?_
      rintro e w16 ⟨rfl, hb⟩
      refine ⟨_, rfl, ?_⟩
      replace HO_5 := hob_ HO_5 hb
      replace HO_6 := hob_ HO_6 hb
      replace BK661 := bkb_ BK661 hb
      replace HB := hbs_ hb
      (try clear hb)
      (try clear hb2)
      (try clear hk)
      (try clear hi)
      refine hK.out _ _ ⟨(blk_cell BK661.out 0).trans rfl, (blk_cell BK661.out 1).trans rfl, (cb_ HB hw668_0 :), (cb_ HB hw668_1 :), (cb_ HB hw668_2 :), (cb_ HB hw668_3 :), (cb_ HB hw668_4 :), (cb_ HB hw668_5 :), (cb_ HB hw668_6 :), (cb_ HB hw668_7 :), (cb_ HB hw668_8 :), (cb_ HB hw668_9 :), (cb_ HB hw670_0 :), (cb_ HB hw670_1 :), (cb_ HB hw670_2 :), (cb_ HB hw670_3 :), (cb_ HB hw670_4 :), (cb_ HB hw670_5 :), (cb_ HB hw670_6 :), (cb_ HB hw670_7 :), (cb_ HB hw670_8 :), (cb_ HB hw670_9 :)⟩ (fun hHeld => ?_)
      clear hK K
      refine norm_ (a' := ?_) ?_ ?_
      rotate_left
      ·show Act.put _ (some 22) _ = _
       simp only [Act.put, List.setIfInBounds_toArray, List.set_cons_zero, List.set_cons_succ, i64_w, i32_w]
       rfl
      refine pureZ_ (i := 5) (some 23) #[true, true, true, true, true, true, false, false, false, false, false, false, false, false, false, false, false, false, false, false, false, false, false] (ao_ HT_) ?_
      refine pureZ_ (i := 6) (some 24) #[true, true, true, true, true, true, true, false, false, false, false, false, false, false, false, false, false, false, false, false, false, false, false] (ao_ HT_) ?_
      refine pureZ_ (i := 7) (some 25) #[true, true, true, true, true, true, true, true, false, false, false, false, false, false, false, false, false, false, false, false, false, false, false] (ao_ HT_) ?_
      refine pureZ_ (i := 8) (some 26) #[true, true, true, true, true, true, true, true, true, false, false, false, false, false, false, false, false, false, false, false, false, false, false] (ao_ HT_) ?_
      refine pureZ_ (i := 9) (some 27) #[true, true, true, true, true, true, true, true, true, true, false, false, false, false, false, false, false, false, false, false, false, false, false] (ao_ HT_) ?_
      refine takeZ_ (i := 10) (some 28) #[true, true, true, true, true, true, true, true, true, true, true, false, false, false, false, false, false, false, false, false, false, false, false] (take_ofW HT_.out HW_.out (by kernel_rfl)) hHeld ?_
      refine takeZ_ (i := 11) (some 29) #[true, true, true, true, true, true, true, true, true, true, true, true, false, false, false, false, false, false, false, false, false, false, false] (take_ofW HT_.out HW_.out (by kernel_rfl)) hHeld ?_
      refine pureZ_ (i := 12) (some 30) #[true, true, true, true, true, true, true, true, true, true, true, true, true, false, false, false, false, false, false, false, false, false, false] (ao_ HT_) ?_
      refine pureZ_ (i := 13) (some 31) #[true, true, true, true, true, true, true, true, true, true, true, true, true, true, false, false, false, false, false, false, false, false, false] (ao_ HT_) ?_
      refine pure_ (i := 14) (N := some 32) (v := undef) (a' := ?_) #[true, true, true, true, true, true, true, true, true, true, true, true, true, true, true, false, false, false, false, false, false, false, false] rfl rfl (ao_ HT_) (fun _ _ _ h => h) (Or.inr ⟨by rfl, rfl⟩) ?_ ?_
      rotate_left
      ·simp only [Act.put, List.setIfInBounds_toArray, List.set_cons_zero, List.set_cons_succ, i64_w, i32_w]
       rfl
      refine pure_ (i := 15) (N := some 33) (v := undef) (a' := ?_) #[true, true, true, true, true, true, true, true, true, true, true, true, true, true, true, true, false, false, false, false, false, false, false] rfl rfl (ao_ HT_) (fun _ _ _ h => h) (Or.inr ⟨by rfl, rfl⟩) ?_ ?_
      rotate_left
      ·simp only [Act.put, List.setIfInBounds_toArray, List.set_cons_zero, List.set_cons_succ, i64_w, i32_w]
       rfl
      refine pure_ (i := 16) (N := some 34) (v := undef) (a' := ?_) #[true, true, true, true, true, true, true, true, true, true, true, true, true, true, true, true, true, false, false, false, false, false, false] rfl rfl (ao_ HT_) (fun _ _ _ h => h) (Or.inr ⟨by rfl, rfl⟩) ?_ ?_
      rotate_left
      ·simp only [Act.put, List.setIfInBounds_toArray, List.set_cons_zero, List.set_cons_succ, i64_w, i32_w]
       rfl
      refine pure_ (i := 17) (N := some 35) (v := undef) (a' := ?_) #[true, true, true, true, true, true, true, true, true, true, true, true, true, true, true, true, true, true, false, false, false, false, false] rfl rfl (ao_ HT_) (fun _ _ _ h => h) (Or.inr ⟨by rfl, rfl⟩) ?_ ?_
      rotate_left
      ·simp only [Act.put, List.setIfInBounds_toArray, List.set_cons_zero, List.set_cons_succ, i64_w, i32_w]
       rfl
      refine pure_ (i := 18) (N := some 36) (v := undef) (a' := ?_) #[true, true, true, true, true, true, true, true, true, true, true, true, true, true, true, true, true, true, true, false, false, false, false] rfl rfl (ao_ HT_) (fun _ _ _ h => h) (Or.inr ⟨by rfl, rfl⟩) ?_ ?_
      rotate_left
      ·simp only [Act.put, List.setIfInBounds_toArray, List.set_cons_zero, List.set_cons_succ, i64_w, i32_w]
       rfl
      refine pure_ (i := 19) (N := some 37) (v := undef) (a' := ?_) #[true, true, true, true, true, true, true, true, true, true, true, true, true, true, true, true, true, true, true, true, false, false, false] rfl rfl (ao_ HT_) (fun _ _ _ h => h) (Or.inr ⟨by rfl, rfl⟩) ?_ ?_
      rotate_left
      ·simp only [Act.put, List.setIfInBounds_toArray, List.set_cons_zero, List.set_cons_succ, i64_w, i32_w]
       rfl
      refine pure_ (i := 20) (N := some 38) (v := undef) (a' := ?_) #[true, true, true, true, true, true, true, true, true, true, true, true, true, true, true, true, true, true, true, true, true, false, false] rfl rfl (ao_ HT_) (fun _ _ _ h => h) (Or.inr ⟨by rfl, rfl⟩) ?_ ?_
      rotate_left
      ·simp only [Act.put, List.setIfInBounds_toArray, List.set_cons_zero, List.set_cons_succ, i64_w, i32_w]
       rfl
      refine pureZ_ (i := 21) (some 39) #[true, true, true, true, true, true, true, true, true, true, true, true, true, true, true, true, true, true, true, true, true, true, false] (ao_ HT_) ?_
      refine pureZ_ (i := 22) (some 40) #[true, true, true, true, true, true, true, true, true, true, true, true, true, true, true, true, true, true, true, true, true, true, true] (ao_ HT_) ?_
      refine done_ (done_of HT_.out (by kernel_rfl)) ?_
      have p671 : 0 ≤ (x7_1 : Int) := od_
      have q671 : x7_1 < (l0.length : Int) := od_
      obtain ⟨ad671, e671, hx671_0, hx671_1, hx671_2, hx671_3, hx671_4, hx671_5, hx671_6, hx671_7, hx671_8, hx671_9⟩ := at_T49 HR0.out x7_1 p671 q671
      obtain rfl : ad668 = ad671 := (by injection e671)
      replace hx671_0 := cb_ HB hx671_0
      replace hx671_1 := cb_ HB hx671_1
      replace hx671_2 := cb_ HB hx671_2
      replace hx671_3 := cb_ HB hx671_3
      replace hx671_4 := cb_ HB hx671_4
      replace hx671_5 := cb_ HB hx671_5
      replace hx671_6 := cb_ HB hx671_6
      replace hx671_7 := cb_ HB hx671_7
      replace hx671_8 := cb_ HB hx671_8
      replace hx671_9 := cb_ HB hx671_9
      replace p671 := eq_true p671
      replace q671 := eq_true q671
      try go_wp2_with (first | ((with_reducible refine gate_builtin (b := .append) (xs := #[.tmp 41, .tmp 46]) rfl ?_); at_builtin; refine Kd.R_append k49 (w0 := w) w.heap.size rfl (.tmp 41) (.tmp 46) 24 49 (.agg #[(.int .i64 0), (.int .i64 0), (.int .i64 0), (.int .i64 0), (.int .i64 0), (.int .i64 0), (.int .i64 0), (.int .i64 0), (.int .i64 0), (.int .i64 0)]) 80 rfl Try.underlying24 info49 rfl (by decide) (by omega) u5 x5_1 (⟨(rd_T49 l0 x7_1).f0, (⟨(rd_T49 l0 x7_1).f1.f0, (rd_T49 l0 x7_1).f1.f1⟩ : S26), (rd_T49 l0 x7_1).f2, (⟨(rd_T49 l0 x7_1).f3.f0, (rd_T49 l0 x7_1).f3.f1⟩ : S26), (⟨(rd_T49 l0 x7_1).f4.f0, (rd_T49 l0 x7_1).f4.f1⟩ : S26), (rd_T49 l0 x7_1).f5, (rd_T49 l0 x7_1).f6⟩ : S49) [.int .i64 ((rd_T49 l0 x7_1).f0), .int .i64 ((rd_T49 l0 x7_1).f1.f0), .int .i64 ((rd_T49 l0 x7_1).f1.f1), .int .i64 ((rd_T49 l0 x7_1).f2), .int .i64 ((rd_T49 l0 x7_1).f3.f0), .int .i64 ((rd_T49 l0 x7_1).f3.f1), .int .i64 ((rd_T49 l0 x7_1).f4.f0), .int .i64 ((rd_T49 l0 x7_1).f4.f1), .int .i64 ((rd_T49 l0 x7_1).f5), .int .i64 ((rd_T49 l0 x7_1).f6)] (fun _ => True) (fun _ => False) rfl rfl ?aP (fun _ hk => hk.elim) ?aF ?aO ?aB ?aS ?aL ?_; (case aP => exact k49_mkM _ _ _ (⟨(rd_T49 l0 x7_1).f0, (⟨(rd_T49 l0 x7_1).f1.f0, (rd_T49 l0 x7_1).f1.f1⟩ : S26), (rd_T49 l0 x7_1).f2, (⟨(rd_T49 l0 x7_1).f3.f0, (rd_T49 l0 x7_1).f3.f1⟩ : S26), (⟨(rd_T49 l0 x7_1).f4.f0, (rd_T49 l0 x7_1).f4.f1⟩ : S26), (rd_T49 l0 x7_1).f5, (rd_T49 l0 x7_1).f6⟩ : S49)); (case aB => exact bl_); (case aF => exact (fun _ _ => trivial)); (case aO => exact (rr_ HO_5)); (case aS => exact bls_); (case aL => have := LMc14.out; omega); intro v673 w17 ho hb hg hat; rw [← Ny672.out] at ho; replace HO_6 := Aside0.mk (Kd.R_over' (rr_ HO_6) (Kd.R_typed (rr_ HO_5)) (by decide) hg); replace BK661 := Aside0.mk (blk_grown (g := gb661) (o := .cells #[.int .i64 a1_0, .int .i64 a1_1] 26 (0, 0)) (bk_ BK661) hg (Kd.R_ne HO_5.out BK661.out (by decide))); replace HB := Aside0.mk (hb); have HO674 := Aside0.mk (ho); clear HO_5; clear ho hb hg hat))
      go_roundg k1
      case measure => have := HK1.out; omega
      case rel => exact ⟨(y672), (wrap64 (x7_1 + 1)), rf_, H', ⟨by have := HK1.out; omega⟩, ⟨rr_ HO674⟩, ⟨rr_ HO_6⟩, ⟨bk_ BK661⟩, ⟨bl_⟩⟩
     ·rw [if_neg c13] at H
      have c13b0 : (((rd_T49 l0 x7_1).f1.f0) == a1_0 && (((rd_T49 l0 x7_1).f1.f1) == a1_1)) = false := by simpa using c13
      (try (have c13b1 : decide (((rd_T49 l0 x7_1).f1.f0) = a1_0 && (((rd_T49 l0 x7_1).f1.f1) == a1_1)) = false := by simpa using c13))
      (try (have c13b2 : (((rd_T49 l0 x7_1).f1.f0) == a1_0 && (((rd_T49 l0 x7_1).f1.f1) == a1_1)) = false := by simpa using c13))
      (try (have c13b3 : ¬ (((rd_T49 l0 x7_1).f1.f0) = a1_0 && (((rd_T49 l0 x7_1).f1.f1) == a1_1)) := by simpa using c13))
      clear c13
      obtain ⟨t676, A18, H⟩ := bindE_ H
      have HC19 := Aside0.mk H
      clear H
      try go_wp2
      replace HO_5 := Aside0.mk (Kd.R_drew HO_5.out)
      replace HO_6 := Aside0.mk (Kd.R_drew HO_6.out)
      replace BK661 := Aside0.mk (blk_drew BK661.out)
      replace HB := Aside0.mk (below_drew1 HB.out)
      have p668 : 0 ≤ (x7_1 : Int) := od_
      have q668 : x7_1 < (l0.length : Int) := od_
      obtain ⟨ad668, e668, hx668_0, hx668_1, hx668_2, hx668_3, hx668_4, hx668_5, hx668_6, hx668_7, hx668_8, hx668_9⟩ := at_T49 HR0.out x7_1 p668 q668
      have hw668_9 := hx668_9
      have hw668_8 := hx668_8
      have hw668_7 := hx668_7
      have hw668_6 := hx668_6
      have hw668_5 := hx668_5
      have hw668_4 := hx668_4
      have hw668_3 := hx668_3
      have hw668_2 := hx668_2
      have hw668_1 := hx668_1
      have hw668_0 := hx668_0
      cases e668
      replace hx668_0 := cb_ HB hx668_0
      replace hx668_1 := cb_ HB hx668_1
      replace hx668_2 := cb_ HB hx668_2
      replace hx668_3 := cb_ HB hx668_3
      replace hx668_4 := cb_ HB hx668_4
      replace hx668_5 := cb_ HB hx668_5
      replace hx668_6 := cb_ HB hx668_6
      replace hx668_7 := cb_ HB hx668_7
      replace hx668_8 := cb_ HB hx668_8
      replace hx668_9 := cb_ HB hx668_9
      replace p668 := eq_true p668
      replace q668 := eq_true q668
      have p670 : 0 ≤ (x7_1 : Int) := od_
      have q670 : x7_1 < (l0.length : Int) := od_
      obtain ⟨ad670, e670, hx670_0, hx670_1, hx670_2, hx670_3, hx670_4, hx670_5, hx670_6, hx670_7, hx670_8, hx670_9⟩ := at_T49 HR0.out x7_1 p670 q670
      have hw670_9 := hx670_9
      have hw670_8 := hx670_8
      have hw670_7 := hx670_7
      have hw670_6 := hx670_6
      have hw670_5 := hx670_5
      have hw670_4 := hx670_4
      have hw670_3 := hx670_3
      have hw670_2 := hx670_2
      have hw670_1 := hx670_1
      have hw670_0 := hx670_0
      obtain rfl : ad668 = ad670 := (by injection e670)
      replace hx670_0 := cb_ HB hx670_0
      replace hx670_1 := cb_ HB hx670_1
      replace hx670_2 := cb_ HB hx670_2
      replace hx670_3 := cb_ HB hx670_3
      replace hx670_4 := cb_ HB hx670_4
      replace hx670_5 := cb_ HB hx670_5
      replace hx670_6 := cb_ HB hx670_6
      replace hx670_7 := cb_ HB hx670_7
      replace hx670_8 := cb_ HB hx670_8
      replace hx670_9 := cb_ HB hx670_9
      replace p670 := eq_true p670
      replace q670 := eq_true q670
      have p675 : 0 ≤ (x7_1 : Int) := od_
      have q675 : x7_1 < (l0.length : Int) := od_
      obtain ⟨ad675, e675, hx675_0, hx675_1, hx675_2, hx675_3, hx675_4, hx675_5, hx675_6, hx675_7, hx675_8, hx675_9⟩ := at_T49 HR0.out x7_1 p675 q675
      have hw675_9 := hx675_9
      have hw675_8 := hx675_8
      have hw675_7 := hx675_7
      have hw675_6 := hx675_6
      have hw675_5 := hx675_5
      have hw675_4 := hx675_4
      have hw675_3 := hx675_3
      have hw675_2 := hx675_2
      have hw675_1 := hx675_1
      have hw675_0 := hx675_0
      obtain rfl : ad668 = ad675 := (by injection e675)
      replace hx675_0 := cb_ HB hx675_0
      replace hx675_1 := cb_ HB hx675_1
      replace hx675_2 := cb_ HB hx675_2
      replace hx675_3 := cb_ HB hx675_3
      replace hx675_4 := cb_ HB hx675_4
      replace hx675_5 := cb_ HB hx675_5
      replace hx675_6 := cb_ HB hx675_6
      replace hx675_7 := cb_ HB hx675_7
      replace hx675_8 := cb_ HB hx675_8
      replace hx675_9 := cb_ HB hx675_9
      replace p675 := eq_true p675
      replace q675 := eq_true q675
      refine start_ (n := 23) (S := fun w' => w'.cell? ⟨gb661, 0, none⟩ = some (.int .i64 a1_0) ∧ w'.cell? ⟨gb661, 1, none⟩ = some (.int .i64 a1_1) ∧ w'.cell? (ad668.add ((x7_1).toNat * 10)) = some (.int .i64 ((rd_T49 l0 x7_1).f0)) ∧ w'.cell? ⟨(ad668.add ((x7_1).toNat * 10)).block, (ad668.add ((x7_1).toNat * 10)).off + 1, none⟩ = some (.int .i64 ((rd_T49 l0 x7_1).f1.f0)) ∧ w'.cell? ⟨(ad668.add ((x7_1).toNat * 10)).block, (ad668.add ((x7_1).toNat * 10)).off + 2, none⟩ = some (.int .i64 ((rd_T49 l0 x7_1).f1.f1)) ∧ w'.cell? ⟨(ad668.add ((x7_1).toNat * 10)).block, (ad668.add ((x7_1).toNat * 10)).off + 3, none⟩ = some (.int .i64 ((rd_T49 l0 x7_1).f2)) ∧ w'.cell? ⟨(ad668.add ((x7_1).toNat * 10)).block, (ad668.add ((x7_1).toNat * 10)).off + 4, none⟩ = some (.int .i64 ((rd_T49 l0 x7_1).f3.f0)) ∧ w'.cell? ⟨(ad668.add ((x7_1).toNat * 10)).block, (ad668.add ((x7_1).toNat * 10)).off + 5, none⟩ = some (.int .i64 ((rd_T49 l0 x7_1).f3.f1)) ∧ w'.cell? ⟨(ad668.add ((x7_1).toNat * 10)).block, (ad668.add ((x7_1).toNat * 10)).off + 6, none⟩ = some (.int .i64 ((rd_T49 l0 x7_1).f4.f0)) ∧ w'.cell? ⟨(ad668.add ((x7_1).toNat * 10)).block, (ad668.add ((x7_1).toNat * 10)).off + 7, none⟩ = some (.int .i64 ((rd_T49 l0 x7_1).f4.f1)) ∧ w'.cell? ⟨(ad668.add ((x7_1).toNat * 10)).block, (ad668.add ((x7_1).toNat * 10)).off + 8, none⟩ = some (.int .i64 ((rd_T49 l0 x7_1).f5)) ∧ w'.cell? ⟨(ad668.add ((x7_1).toNat * 10)).block, (ad668.add ((x7_1).toNat * 10)).off + 9, none⟩ = some (.int .i64 ((rd_T49 l0 x7_1).f6)) ∧ w'.cell? (ad668.add ((x7_1).toNat * 10)) = some (.int .i64 ((rd_T49 l0 x7_1).f0)) ∧ w'.cell? ⟨(ad668.add ((x7_1).toNat * 10)).block, (ad668.add ((x7_1).toNat * 10)).off + 1, none⟩ = some (.int .i64 ((rd_T49 l0 x7_1).f1.f0)) ∧ w'.cell? ⟨(ad668.add ((x7_1).toNat * 10)).block, (ad668.add ((x7_1).toNat * 10)).off + 2, none⟩ = some (.int .i64 ((rd_T49 l0 x7_1).f1.f1)) ∧ w'.cell? ⟨(ad668.add ((x7_1).toNat * 10)).block, (ad668.add ((x7_1).toNat * 10)).off + 3, none⟩ = some (.int .i64 ((rd_T49 l0 x7_1).f2)) ∧ w'.cell? ⟨(ad668.add ((x7_1).toNat * 10)).block, (ad668.add ((x7_1).toNat * 10)).off + 4, none⟩ = some (.int .i64 ((rd_T49 l0 x7_1).f3.f0)) ∧ w'.cell? ⟨(ad668.add ((x7_1).toNat * 10)).block, (ad668.add ((x7_1).toNat * 10)).off + 5, none⟩ = some (.int .i64 ((rd_T49 l0 x7_1).f3.f1)) ∧ w'.cell? ⟨(ad668.add ((x7_1).toNat * 10)).block, (ad668.add ((x7_1).toNat * 10)).off + 6, none⟩ = some (.int .i64 ((rd_T49 l0 x7_1).f4.f0)) ∧ w'.cell? ⟨(ad668.add ((x7_1).toNat * 10)).block, (ad668.add ((x7_1).toNat * 10)).off + 7, none⟩ = some (.int .i64 ((rd_T49 l0 x7_1).f4.f1)) ∧ w'.cell? ⟨(ad668.add ((x7_1).toNat * 10)).block, (ad668.add ((x7_1).toNat * 10)).off + 8, none⟩ = some (.int .i64 ((rd_T49 l0 x7_1).f5)) ∧ w'.cell? ⟨(ad668.add ((x7_1).toNat * 10)).block, (ad668.add ((x7_1).toNat * 10)).off + 9, none⟩ = some (.int .i64 ((rd_T49 l0 x7_1).f6)) ∧ w'.cell? (ad668.add ((x7_1).toNat * 10)) = some (.int .i64 ((rd_T49 l0 x7_1).f0)) ∧ w'.cell? ⟨(ad668.add ((x7_1).toNat * 10)).block, (ad668.add ((x7_1).toNat * 10)).off + 1, none⟩ = some (.int .i64 ((rd_T49 l0 x7_1).f1.f0)) ∧ w'.cell? ⟨(ad668.add ((x7_1).toNat * 10)).block, (ad668.add ((x7_1).toNat * 10)).off + 2, none⟩ = some (.int .i64 ((rd_T49 l0 x7_1).f1.f1)) ∧ w'.cell? ⟨(ad668.add ((x7_1).toNat * 10)).block, (ad668.add ((x7_1).toNat * 10)).off + 3, none⟩ = some (.int .i64 ((rd_T49 l0 x7_1).f2)) ∧ w'.cell? ⟨(ad668.add ((x7_1).toNat * 10)).block, (ad668.add ((x7_1).toNat * 10)).off + 4, none⟩ = some (.int .i64 ((rd_T49 l0 x7_1).f3.f0)) ∧ w'.cell? ⟨(ad668.add ((x7_1).toNat * 10)).block, (ad668.add ((x7_1).toNat * 10)).off + 5, none⟩ = some (.int .i64 ((rd_T49 l0 x7_1).f3.f1)) ∧ w'.cell? ⟨(ad668.add ((x7_1).toNat * 10)).block, (ad668.add ((x7_1).toNat * 10)).off + 6, none⟩ = some (.int .i64 ((rd_T49 l0 x7_1).f4.f0)) ∧ w'.cell? ⟨(ad668.add ((x7_1).toNat * 10)).block, (ad668.add ((x7_1).toNat * 10)).off + 7, none⟩ = some (.int .i64 ((rd_T49 l0 x7_1).f4.f1)) ∧ w'.cell? ⟨(ad668.add ((x7_1).toNat * 10)).block, (ad668.add ((x7_1).toNat * 10)).off + 8, none⟩ = some (.int .i64 ((rd_T49 l0 x7_1).f5)) ∧ w'.cell? ⟨(ad668.add ((x7_1).toNat * 10)).block, (ad668.add ((x7_1).toNat * 10)).off + 9, none⟩ = some (.int .i64 ((rd_T49 l0 x7_1).f6))) (ds := []) #[false, false, false, false, false, false, false, false, false, false, false, false, false, false, false, false, false, false, false, false, false, false, false] (by kernel_rfl) rfl rfl ⟨(blk_cell BK661.out 0).trans rfl, (blk_cell BK661.out 1).trans rfl, (cb_ HB hw668_0 :), (cb_ HB hw668_1 :), (cb_ HB hw668_2 :), (cb_ HB hw668_3 :), (cb_ HB hw668_4 :), (cb_ HB hw668_5 :), (cb_ HB hw668_6 :), (cb_ HB hw668_7 :), (cb_ HB hw668_8 :), (cb_ HB hw668_9 :), (cb_ HB hw670_0 :), (cb_ HB hw670_1 :), (cb_ HB hw670_2 :), (cb_ HB hw670_3 :), (cb_ HB hw670_4 :), (cb_ HB hw670_5 :), (cb_ HB hw670_6 :), (cb_ HB hw670_7 :), (cb_ HB hw670_8 :), (cb_ HB hw670_9 :), (cb_ HB hw675_0 :), (cb_ HB hw675_1 :), (cb_ HB hw675_2 :), (cb_ HB hw675_3 :), (cb_ HB hw675_4 :), (cb_ HB hw675_5 :), (cb_ HB hw675_6 :), (cb_ HB hw675_7 :), (cb_ HB hw675_8 :), (cb_ HB hw675_9 :)⟩ (fun hHeld => ?_); refine with_tabW spec_NeededFor.tab6 spec_NeededFor.bits6 (fun HT_ HW_ => ?_)
      generalize wr.drew = w20 at HO_5 HO_6 BK661 HB hx668_0 hx668_1 hx668_2 hx668_3 hx668_4 hx668_5 hx668_6 hx668_7 hx668_8 hx668_9 hx670_0 hx670_1 hx670_2 hx670_3 hx670_4 hx670_5 hx670_6 hx670_7 hx670_8 hx670_9 hx675_0 hx675_1 hx675_2 hx675_3 hx675_4 hx675_5 hx675_6 hx675_7 hx675_8 hx675_9 hHeld ⊢
      refine pureZ_ (i := 0) (some 18) #[true, false, false, false, false, false, false, false, false, false, false, false, false, false, false, false, false, false, false, false, false, false, false] (ao_ HT_) ?_
      refine pureZ_ (i := 1) (some 19) #[true, true, false, false, false, false, false, false, false, false, false, false, false, false, false, false, false, false, false, false, false, false, false] (ao_ HT_) ?_
      refine pureZ_ (i := 2) (some 20) #[true, true, true, false, false, false, false, false, false, false, false, false, false, false, false, false, false, false, false, false, false, false, false] (ao_ HT_) ?_
      refine takeZ_ (i := 3) (some 21) #[true, true, true, true, false, false, false, false, false, false, false, false, false, false, false, false, false, false, false, false, false, false, false] (take_ofW HT_.out HW_.out (by kernel_rfl)) hHeld ?_
      refine one_ (i := 4) (N := some 22) #[true, true, true, true, true, false, false, false, false, false, false, false, false, false, false, false, false, false, false, false, false, false, false] rfl rfl (one_of HT_.out (by kernel_rfl)) (by decide) (fun K hK => ?_)
      refine goes_ Try.func34 (by kernel_rfl) rfl #[.agg #[.int .i64 ((rd_T49 l0 x7_1).f0), .int .i64 ((rd_T49 l0 x7_1).f1.f0), .int .i64 ((rd_T49 l0 x7_1).f1.f1), .int .i64 ((rd_T49 l0 x7_1).f2), .int .i64 ((rd_T49 l0 x7_1).f3.f0), .int .i64 ((rd_T49 l0 x7_1).f3.f1), .int .i64 ((rd_T49 l0 x7_1).f4.f0), .int .i64 ((rd_T49 l0 x7_1).f4.f1), .int .i64 ((rd_T49 l0 x7_1).f5), .int .i64 ((rd_T49 l0 x7_1).f6)]] (by rfl) rfl rfl (by (try simp only [List.map_toArray, List.map_cons, List.map_nil]); first | done | rfl | (simp only [List.length_drop, List.length_take]; rfl)) ?_
      with_reducible refine (spec_CredOk.calls k1 ((rd_T49 l0 x7_1).f0) ((rd_T49 l0 x7_1).f1.f0) ((rd_T49 l0 x7_1).f1.f1) ((rd_T49 l0 x7_1).f2) ((rd_T49 l0 x7_1).f3.f0) ((rd_T49 l0 x7_1).f3.f1) ((rd_T49 l0 x7_1).f4.f0) ((rd_T49 l0 x7_1).f4.f1) ((rd_T49 l0 x7_1).f5) ((rd_T49 l0 x7_1).f6) true _ A11.out).mono ?_
      rintro e w21 ⟨rfl, hb⟩
      refine ⟨_, rfl, ?_⟩
      replace HO_5 := hob_ HO_5 hb
      replace HO_6 := hob_ HO_6 hb
      replace BK661 := bkb_ BK661 hb
      replace HB := hbs_ hb
      (try clear hb)
      (try clear hb2)
      (try clear hk)
      (try clear hi)
      obtain ⟨Ao22, co22, eo22⟩ := Kd.R_slice HO_6.out
      (first | subst eo22 | (injection eo22 with f1_ f2_ f3_; have f4_ := f1_.symm; have f5_ := f3_.symm; clear f1_ f2_ f3_; subst f4_; subst f5_))
      refine hK.out _ _ ⟨(blk_cell BK661.out 0).trans rfl, (blk_cell BK661.out 1).trans rfl, (cb_ HB hw668_0 :), (cb_ HB hw668_1 :), (cb_ HB hw668_2 :), (cb_ HB hw668_3 :), (cb_ HB hw668_4 :), (cb_ HB hw668_5 :), (cb_ HB hw668_6 :), (cb_ HB hw668_7 :), (cb_ HB hw668_8 :), (cb_ HB hw668_9 :), (cb_ HB hw670_0 :), (cb_ HB hw670_1 :), (cb_ HB hw670_2 :), (cb_ HB hw670_3 :), (cb_ HB hw670_4 :), (cb_ HB hw670_5 :), (cb_ HB hw670_6 :), (cb_ HB hw670_7 :), (cb_ HB hw670_8 :), (cb_ HB hw670_9 :), (cb_ HB hw675_0 :), (cb_ HB hw675_1 :), (cb_ HB hw675_2 :), (cb_ HB hw675_3 :), (cb_ HB hw675_4 :), (cb_ HB hw675_5 :), (cb_ HB hw675_6 :), (cb_ HB hw675_7 :), (cb_ HB hw675_8 :), (cb_ HB hw675_9 :)⟩ (fun hHeld => ?_)
      clear hK K
      refine norm_ (a' := ?_) ?_ ?_
      rotate_left
      ·show Act.put _ (some 22) _ = _
       simp only [Act.put, List.setIfInBounds_toArray, List.set_cons_zero, List.set_cons_succ, i64_w, i32_w]
       rfl
      refine pureZ_ (i := 5) (some 23) #[true, true, true, true, true, true, false, false, false, false, false, false, false, false, false, false, false, false, false, false, false, false, false] (ao_ HT_) ?_
      refine pureZ_ (i := 6) (some 24) #[true, true, true, true, true, true, true, false, false, false, false, false, false, false, false, false, false, false, false, false, false, false, false] (ao_ HT_) ?_
      refine pureZ_ (i := 7) (some 25) #[true, true, true, true, true, true, true, true, false, false, false, false, false, false, false, false, false, false, false, false, false, false, false] (ao_ HT_) ?_
      refine pureZ_ (i := 8) (some 26) #[true, true, true, true, true, true, true, true, true, false, false, false, false, false, false, false, false, false, false, false, false, false, false] (ao_ HT_) ?_
      refine pureZ_ (i := 9) (some 27) #[true, true, true, true, true, true, true, true, true, true, false, false, false, false, false, false, false, false, false, false, false, false, false] (ao_ HT_) ?_
      refine takeZ_ (i := 10) (some 28) #[true, true, true, true, true, true, true, true, true, true, true, false, false, false, false, false, false, false, false, false, false, false, false] (take_ofW HT_.out HW_.out (by kernel_rfl)) hHeld ?_
      refine takeZ_ (i := 11) (some 29) #[true, true, true, true, true, true, true, true, true, true, true, true, false, false, false, false, false, false, false, false, false, false, false] (take_ofW HT_.out HW_.out (by kernel_rfl)) hHeld ?_
      refine pureZ_ (i := 12) (some 30) #[true, true, true, true, true, true, true, true, true, true, true, true, true, false, false, false, false, false, false, false, false, false, false] (ao_ HT_) ?_
      refine pureZ_ (i := 13) (some 31) #[true, true, true, true, true, true, true, true, true, true, true, true, true, true, false, false, false, false, false, false, false, false, false] (ao_ HT_) ?_
      refine pureZ_ (i := 14) (some 32) #[true, true, true, true, true, true, true, true, true, true, true, true, true, true, true, false, false, false, false, false, false, false, false] (ao_ HT_) ?_
      refine pureZ_ (i := 15) (some 33) #[true, true, true, true, true, true, true, true, true, true, true, true, true, true, true, true, false, false, false, false, false, false, false] (ao_ HT_) ?_
      refine pureZ_ (i := 16) (some 34) #[true, true, true, true, true, true, true, true, true, true, true, true, true, true, true, true, true, false, false, false, false, false, false] (ao_ HT_) ?_
      refine pureZ_ (i := 17) (some 35) #[true, true, true, true, true, true, true, true, true, true, true, true, true, true, true, true, true, true, false, false, false, false, false] (ao_ HT_) ?_
      refine pureZ_ (i := 18) (some 36) #[true, true, true, true, true, true, true, true, true, true, true, true, true, true, true, true, true, true, true, false, false, false, false] (ao_ HT_) ?_
      refine takeZ_ (i := 19) (some 37) #[true, true, true, true, true, true, true, true, true, true, true, true, true, true, true, true, true, true, true, true, false, false, false] (take_ofW HT_.out HW_.out (by kernel_rfl)) hHeld ?_
      refine one_ (i := 20) (N := some 38) #[true, true, true, true, true, true, true, true, true, true, true, true, true, true, true, true, true, true, true, true, true, false, false] rfl rfl (one_of HT_.out (by kernel_rfl)) (by decide) (fun K hK => ?_)
      refine goes_ Try.func37 (by kernel_rfl) rfl #[.slice Ao22 t665.length co22, .agg #[.int .i64 ((rd_T49 l0 x7_1).f1.f0), .int .i64 ((rd_T49 l0 x7_1).f1.f1)]] (by rfl) rfl rfl (by (try simp only [List.map_toArray, List.map_cons, List.map_nil]); first | done | rfl | (simp only [List.length_drop, List.length_take]; rfl)) ?_
      with_reducible refine (spec_l13Done.calls k1 _ _ t665 ((rd_T49 l0 x7_1).f1.f0) ((rd_T49 l0 x7_1).f1.f1) t676 _ ?side1 ?side2 A18.out).mono ?_
      (case side1 => repeat (first | exact (Kd.R_reads' HO_6.out).2.2 | (with_reducible refine Kd.C_alloc ?_ _) | (with_reducible refine Kd.C_drewN ?_ _) | (with_reducible refine Kd.C_drew ?_)))
      (case side2 => exact (Kd.R_reads' HO_6.out).2.1)
      rintro e w23 ⟨rfl, hb⟩
      refine ⟨_, rfl, ?_⟩
      replace HO_5 := hob_ HO_5 hb
      replace HO_6 := hob_ HO_6 hb
      replace BK661 := bkb_ BK661 hb
      replace HB := hbs_ hb
      (try clear hb)
      (try clear hb2)
      (try clear hk)
      (try clear hi)
      refine hK.out _ _ ⟨(blk_cell BK661.out 0).trans rfl, (blk_cell BK661.out 1).trans rfl, (cb_ HB hw668_0 :), (cb_ HB hw668_1 :), (cb_ HB hw668_2 :), (cb_ HB hw668_3 :), (cb_ HB hw668_4 :), (cb_ HB hw668_5 :), (cb_ HB hw668_6 :), (cb_ HB hw668_7 :), (cb_ HB hw668_8 :), (cb_ HB hw668_9 :), (cb_ HB hw670_0 :), (cb_ HB hw670_1 :), (cb_ HB hw670_2 :), (cb_ HB hw670_3 :), (cb_ HB hw670_4 :), (cb_ HB hw670_5 :), (cb_ HB hw670_6 :), (cb_ HB hw670_7 :), (cb_ HB hw670_8 :), (cb_ HB hw670_9 :), (cb_ HB hw675_0 :), (cb_ HB hw675_1 :), (cb_ HB hw675_2 :), (cb_ HB hw675_3 :), (cb_ HB hw675_4 :), (cb_ HB hw675_5 :), (cb_ HB hw675_6 :), (cb_ HB hw675_7 :), (cb_ HB hw675_8 :), (cb_ HB hw675_9 :)⟩ (fun hHeld => ?_)
      clear hK K
      refine norm_ (a' := ?_) ?_ ?_
      rotate_left
      ·show Act.put _ (some 38) _ = _
       simp only [Act.put, List.setIfInBounds_toArray, List.set_cons_zero, List.set_cons_succ, i64_w, i32_w]
       rfl
      refine pureZ_ (i := 21) (some 39) #[true, true, true, true, true, true, true, true, true, true, true, true, true, true, true, true, true, true, true, true, true, true, false] (ao_ HT_) ?_
      refine pureZ_ (i := 22) (some 40) #[true, true, true, true, true, true, true, true, true, true, true, true, true, true, true, true, true, true, true, true, true, true, true] (ao_ HT_) ?_
      refine done_ (done_of HT_.out (by kernel_rfl)) ?_
      go_upto_if 40 with (fail)
      have H := HC19.out
      clear HC19
      by_cases c24 : t676 = true
      ·subst c24
       replace H := ite_t_ H
       obtain ⟨c25, H⟩ := ifn_ H
       have LMc25 := Aside0.mk c25
       clear c25
       obtain ⟨y678, hy678⟩ : ∃ y_ : List (S49), y_ = (x5_1 ++ [(⟨(rd_T49 l0 x7_1).f0, (⟨(rd_T49 l0 x7_1).f1.f0, (rd_T49 l0 x7_1).f1.f1⟩ : S26), (rd_T49 l0 x7_1).f2, (⟨(rd_T49 l0 x7_1).f3.f0, (rd_T49 l0 x7_1).f3.f1⟩ : S26), (⟨(rd_T49 l0 x7_1).f4.f0, (rd_T49 l0 x7_1).f4.f1⟩ : S26), (rd_T49 l0 x7_1).f5, (rd_T49 l0 x7_1).f6⟩ : S49)]) := ⟨_, rfl⟩
       replace H : (spec_NeededFor.l0 k1 l0 y678 t665 (wrap64 (x7_1 + 1)) a1_0 a1_1) = some r := rh_ hy678 H
       have Ny678 := Aside0.mk hy678
       clear hy678
       have H' := Aside0.mk H
       clear H
       have p677 : 0 ≤ (x7_1 : Int) := od_
       have q677 : x7_1 < (l0.length : Int) := od_
       obtain ⟨ad677, e677, hx677_0, hx677_1, hx677_2, hx677_3, hx677_4, hx677_5, hx677_6, hx677_7, hx677_8, hx677_9⟩ := at_T49 HR0.out x7_1 p677 q677
       obtain rfl : ad668 = ad677 := (by injection e677)
       replace hx677_0 := cb_ HB hx677_0
       replace hx677_1 := cb_ HB hx677_1
       replace hx677_2 := cb_ HB hx677_2
       replace hx677_3 := cb_ HB hx677_3
       replace hx677_4 := cb_ HB hx677_4
       replace hx677_5 := cb_ HB hx677_5
       replace hx677_6 := cb_ HB hx677_6
       replace hx677_7 := cb_ HB hx677_7
       replace hx677_8 := cb_ HB hx677_8
       replace hx677_9 := cb_ HB hx677_9
       replace p677 := eq_true p677
       replace q677 := eq_true q677
       go_wp2_with (first | ((with_reducible refine gate_builtin (b := .append) (xs := #[.tmp 41, .tmp 46]) rfl ?_); at_builtin; refine Kd.R_append k49 (w0 := w) w.heap.size rfl (.tmp 41) (.tmp 46) 24 49 (.agg #[(.int .i64 0), (.int .i64 0), (.int .i64 0), (.int .i64 0), (.int .i64 0), (.int .i64 0), (.int .i64 0), (.int .i64 0), (.int .i64 0), (.int .i64 0)]) 80 rfl Try.underlying24 info49 rfl (by decide) (by omega) u5 x5_1 (⟨(rd_T49 l0 x7_1).f0, (⟨(rd_T49 l0 x7_1).f1.f0, (rd_T49 l0 x7_1).f1.f1⟩ : S26), (rd_T49 l0 x7_1).f2, (⟨(rd_T49 l0 x7_1).f3.f0, (rd_T49 l0 x7_1).f3.f1⟩ : S26), (⟨(rd_T49 l0 x7_1).f4.f0, (rd_T49 l0 x7_1).f4.f1⟩ : S26), (rd_T49 l0 x7_1).f5, (rd_T49 l0 x7_1).f6⟩ : S49) [.int .i64 ((rd_T49 l0 x7_1).f0), .int .i64 ((rd_T49 l0 x7_1).f1.f0), .int .i64 ((rd_T49 l0 x7_1).f1.f1), .int .i64 ((rd_T49 l0 x7_1).f2), .int .i64 ((rd_T49 l0 x7_1).f3.f0), .int .i64 ((rd_T49 l0 x7_1).f3.f1), .int .i64 ((rd_T49 l0 x7_1).f4.f0), .int .i64 ((rd_T49 l0 x7_1).f4.f1), .int .i64 ((rd_T49 l0 x7_1).f5), .int .i64 ((rd_T49 l0 x7_1).f6)] (fun _ => True) (fun _ => False) rfl rfl ?aP (fun _ hk => hk.elim) ?aF ?aO ?aB ?aS ?aL ?_; (case aP => exact k49_mkM _ _ _ (⟨(rd_T49 l0 x7_1).f0, (⟨(rd_T49 l0 x7_1).f1.f0, (rd_T49 l0 x7_1).f1.f1⟩ : S26), (rd_T49 l0 x7_1).f2, (⟨(rd_T49 l0 x7_1).f3.f0, (rd_T49 l0 x7_1).f3.f1⟩ : S26), (⟨(rd_T49 l0 x7_1).f4.f0, (rd_T49 l0 x7_1).f4.f1⟩ : S26), (rd_T49 l0 x7_1).f5, (rd_T49 l0 x7_1).f6⟩ : S49)); (case aB => exact bl_); (case aF => exact (fun _ _ => trivial)); (case aO => exact (rr_ HO_5)); (case aS => exact bls_); (case aL => have := LMc25.out; omega); intro v679 w26 ho hb hg hat; rw [← Ny678.out] at ho; replace HO_6 := Aside0.mk (Kd.R_over' (rr_ HO_6) (Kd.R_typed (rr_ HO_5)) (by decide) hg); replace BK661 := Aside0.mk (blk_grown (g := gb661) (o := .cells #[.int .i64 a1_0, .int .i64 a1_1] 26 (0, 0)) (bk_ BK661) hg (Kd.R_ne HO_5.out BK661.out (by decide))); replace HB := Aside0.mk (hb); have HO680 := Aside0.mk (ho); clear HO_5; clear ho hb hg hat))
       go_roundg k1
       case measure => have := HK1.out; omega
       case rel => exact ⟨(y678), (wrap64 (x7_1 + 1)), rf_, H', ⟨by have := HK1.out; omega⟩, ⟨rr_ HO680⟩, ⟨rr_ HO_6⟩, ⟨bk_ BK661⟩, ⟨bl_⟩⟩
      ·replace c24 := Bool.eq_false_iff.mpr c24
       subst c24
       replace H := ite_f_ H
       have H' := Aside0.mk H
       clear H
       go_wp2
       go_roundg k1
       case measure => have := HK1.out; omega
       case rel => exact ⟨(x5_1), (wrap64 (x7_1 + 1)), rf_, H', ⟨by have := HK1.out; omega⟩, ⟨rr_ HO_5⟩, ⟨rr_ HO_6⟩, ⟨bk_ BK661⟩, ⟨bl_⟩⟩
    ·replace c12 := Bool.eq_false_iff.mpr c12
     subst c12
     replace H := ite_f_ H
     have H' := Aside0.mk H
     clear H
     try go_wp2
     replace HO_5 := Aside0.mk (Kd.R_drew HO_5.out)
     replace HO_6 := Aside0.mk (Kd.R_drew HO_6.out)
     replace BK661 := Aside0.mk (blk_drew BK661.out)
     replace HB := Aside0.mk (below_drew1 HB.out)
     have p668 : 0 ≤ (x7_1 : Int) := od_
     have q668 : x7_1 < (l0.length : Int) := od_
     obtain ⟨ad668, e668, hx668_0, hx668_1, hx668_2, hx668_3, hx668_4, hx668_5, hx668_6, hx668_7, hx668_8, hx668_9⟩ := at_T49 HR0.out x7_1 p668 q668
     have hw668_9 := hx668_9
     have hw668_8 := hx668_8
     have hw668_7 := hx668_7
     have hw668_6 := hx668_6
     have hw668_5 := hx668_5
     have hw668_4 := hx668_4
     have hw668_3 := hx668_3
     have hw668_2 := hx668_2
     have hw668_1 := hx668_1
     have hw668_0 := hx668_0
     cases e668
     replace hx668_0 := cb_ HB hx668_0
     replace hx668_1 := cb_ HB hx668_1
     replace hx668_2 := cb_ HB hx668_2
     replace hx668_3 := cb_ HB hx668_3
     replace hx668_4 := cb_ HB hx668_4
     replace hx668_5 := cb_ HB hx668_5
     replace hx668_6 := cb_ HB hx668_6
     replace hx668_7 := cb_ HB hx668_7
     replace hx668_8 := cb_ HB hx668_8
     replace hx668_9 := cb_ HB hx668_9
     replace p668 := eq_true p668
     replace q668 := eq_true q668
     refine start_ (n := 23) (S := fun w' => w'.cell? (ad668.add ((x7_1).toNat * 10)) = some (.int .i64 ((rd_T49 l0 x7_1).f0)) ∧ w'.cell? ⟨(ad668.add ((x7_1).toNat * 10)).block, (ad668.add ((x7_1).toNat * 10)).off + 1, none⟩ = some (.int .i64 ((rd_T49 l0 x7_1).f1.f0)) ∧ w'.cell? ⟨(ad668.add ((x7_1).toNat * 10)).block, (ad668.add ((x7_1).toNat * 10)).off + 2, none⟩ = some (.int .i64 ((rd_T49 l0 x7_1).f1.f1)) ∧ w'.cell? ⟨(ad668.add ((x7_1).toNat * 10)).block, (ad668.add ((x7_1).toNat * 10)).off + 3, none⟩ = some (.int .i64 ((rd_T49 l0 x7_1).f2)) ∧ w'.cell? ⟨(ad668.add ((x7_1).toNat * 10)).block, (ad668.add ((x7_1).toNat * 10)).off + 4, none⟩ = some (.int .i64 ((rd_T49 l0 x7_1).f3.f0)) ∧ w'.cell? ⟨(ad668.add ((x7_1).toNat * 10)).block, (ad668.add ((x7_1).toNat * 10)).off + 5, none⟩ = some (.int .i64 ((rd_T49 l0 x7_1).f3.f1)) ∧ w'.cell? ⟨(ad668.add ((x7_1).toNat * 10)).block, (ad668.add ((x7_1).toNat * 10)).off + 6, none⟩ = some (.int .i64 ((rd_T49 l0 x7_1).f4.f0)) ∧ w'.cell? ⟨(ad668.add ((x7_1).toNat * 10)).block, (ad668.add ((x7_1).toNat * 10)).off + 7, none⟩ = some (.int .i64 ((rd_T49 l0 x7_1).f4.f1)) ∧ w'.cell? ⟨(ad668.add ((x7_1).toNat * 10)).block, (ad668.add ((x7_1).toNat * 10)).off + 8, none⟩ = some (.int .i64 ((rd_T49 l0 x7_1).f5)) ∧ w'.cell? ⟨(ad668.add ((x7_1).toNat * 10)).block, (ad668.add ((x7_1).toNat * 10)).off + 9, none⟩ = some (.int .i64 ((rd_T49 l0 x7_1).f6))) (ds := []) #[false, false, false, false, false, false, false, false, false, false, false, false, false, false, false, false, false, false, false, false, false, false, false] (by kernel_rfl) rfl rfl ⟨(cb_ HB hw668_0 :), (cb_ HB hw668_1 :), (cb_ HB hw668_2 :), (cb_ HB hw668_3 :), (cb_ HB hw668_4 :), (cb_ HB hw668_5 :), (cb_ HB hw668_6 :), (cb_ HB hw668_7 :), (cb_ HB hw668_8 :), (cb_ HB hw668_9 :)⟩ (fun hHeld => ?_); refine with_tabW spec_NeededFor.tab6 spec_NeededFor.bits6 (fun HT_ HW_ => ?_)
     generalize wr.drew = w27 at HO_5 HO_6 BK661 HB hx668_0 hx668_1 hx668_2 hx668_3 hx668_4 hx668_5 hx668_6 hx668_7 hx668_8 hx668_9 hHeld ⊢
     refine pureZ_ (i := 0) (some 18) #[true, false, false, false, false, false, false, false, false, false, false, false, false, false, false, false, false, false, false, false, false, false, false] (ao_ HT_) ?_
     refine pureZ_ (i := 1) (some 19) #[true, true, false, false, false, false, false, false, false, false, false, false, false, false, false, false, false, false, false, false, false, false, false] (ao_ HT_) ?_
     refine pureZ_ (i := 2) (some 20) #[true, true, true, false, false, false, false, false, false, false, false, false, false, false, false, false, false, false, false, false, false, false, false] (ao_ HT_) ?_
     refine takeZ_ (i := 3) (some 21) #[true, true, true, true, false, false, false, false, false, false, false, false, false, false, false, false, false, false, false, false, false, false, false] (take_ofW HT_.out HW_.out (by kernel_rfl)) hHeld ?_
     refine one_ (i := 4) (N := some 22) #[true, true, true, true, true, false, false, false, false, false, false, false, false, false, false, false, false, false, false, false, false, false, false] rfl rfl (one_of HT_.out (by kernel_rfl)) (by decide) (fun K hK => ?_)
     refine goes_ Try.func34 (by kernel_rfl) rfl #[.agg #[.int .i64 ((rd_T49 l0 x7_1).f0), .int .i64 ((rd_T49 l0 x7_1).f1.f0), .int .i64 ((rd_T49 l0 x7_1).f1.f1), .int .i64 ((rd_T49 l0 x7_1).f2), .int .i64 ((rd_T49 l0 x7_1).f3.f0), .int .i64 ((rd_T49 l0 x7_1).f3.f1), .int .i64 ((rd_T49 l0 x7_1).f4.f0), .int .i64 ((rd_T49 l0 x7_1).f4.f1), .int .i64 ((rd_T49 l0 x7_1).f5), .int .i64 ((rd_T49 l0 x7_1).f6)]] (by rfl) rfl rfl (by (try simp only [List.map_toArray, List.map_cons, List.map_nil]); first | done | rfl | (simp only [List.length_drop, List.length_take]; rfl)) ?_
     with_reducible refine (spec_CredOk.calls k1 ((rd_T49 l0 x7_1).f0) ((rd_T49 l0 x7_1).f1.f0) ((rd_T49 l0 x7_1).f1.f1) ((rd_T49 l0 x7_1).f2) ((rd_T49 l0 x7_1).f3.f0) ((rd_T49 l0 x7_1).f3.f1) ((rd_T49 l0 x7_1).f4.f0) ((rd_T49 l0 x7_1).f4.f1) ((rd_T49 l0 x7_1).f5) ((rd_T49 l0 x7_1).f6) false _ A11.out).mono ?_
     rintro e w28 ⟨rfl, hb⟩
     refine ⟨_, rfl, ?_⟩
     replace HO_5 := hob_ HO_5 hb
     replace HO_6 := hob_ HO_6 hb
     replace BK661 := bkb_ BK661 hb
     replace HB := hbs_ hb
     (try clear hb)
     (try clear hb2)
     (try clear hk)
     (try clear hi)
     refine hK.out _ _ ⟨(cb_ HB hw668_0 :), (cb_ HB hw668_1 :), (cb_ HB hw668_2 :), (cb_ HB hw668_3 :), (cb_ HB hw668_4 :), (cb_ HB hw668_5 :), (cb_ HB hw668_6 :), (cb_ HB hw668_7 :), (cb_ HB hw668_8 :), (cb_ HB hw668_9 :)⟩ (fun hHeld => ?_)
     clear hK K
     refine norm_ (a' := ?_) ?_ ?_
     rotate_left
     ·show Act.put _ (some 22) _ = _
      simp only [Act.put, List.setIfInBounds_toArray, List.set_cons_zero, List.set_cons_succ, i64_w, i32_w]
      rfl
     refine pureZ_ (i := 5) (some 23) #[true, true, true, true, true, true, false, false, false, false, false, false, false, false, false, false, false, false, false, false, false, false, false] (ao_ HT_) ?_
     refine pure_ (i := 6) (N := some 24) (v := undef) (a' := ?_) #[true, true, true, true, true, true, true, false, false, false, false, false, false, false, false, false, false, false, false, false, false, false, false] rfl rfl (ao_ HT_) (fun _ _ _ h => h) (Or.inr ⟨by rfl, rfl⟩) ?_ ?_
     rotate_left
     ·simp only [Act.put, List.setIfInBounds_toArray, List.set_cons_zero, List.set_cons_succ, i64_w, i32_w]
      rfl
     refine pure_ (i := 7) (N := some 25) (v := undef) (a' := ?_) #[true, true, true, true, true, true, true, true, false, false, false, false, false, false, false, false, false, false, false, false, false, false, false] rfl rfl (ao_ HT_) (fun _ _ _ h => h) (Or.inr ⟨by rfl, rfl⟩) ?_ ?_
     rotate_left
     ·simp only [Act.put, List.setIfInBounds_toArray, List.set_cons_zero, List.set_cons_succ, i64_w, i32_w]
      rfl
     refine pure_ (i := 8) (N := some 26) (v := undef) (a' := ?_) #[true, true, true, true, true, true, true, true, true, false, false, false, false, false, false, false, false, false, false, false, false, false, false] rfl rfl (ao_ HT_) (fun _ _ _ h => h) (Or.inr ⟨by rfl, rfl⟩) ?_ ?_
     rotate_left
     ·simp only [Act.put, List.setIfInBounds_toArray, List.set_cons_zero, List.set_cons_succ, i64_w, i32_w]
      rfl
     refine pure_ (i := 9) (N := some 27) (v := undef) (a' := ?_) #[true, true, true, true, true, true, true, true, true, true, false, false, false, false, false, false, false, false, false, false, false, false, false] rfl rfl (ao_ HT_) (fun _ _ _ h => h) (Or.inr ⟨by rfl, rfl⟩) ?_ ?_
     rotate_left
     ·simp only [Act.put, List.setIfInBounds_toArray, List.set_cons_zero, List.set_cons_succ, i64_w, i32_w]
      rfl
     refine pure_ (i := 10) (N := some 28) (v := undef) (a' := ?_) #[true, true, true, true, true, true, true, true, true, true, true, false, false, false, false, false, false, false, false, false, false, false, false] rfl rfl (ao_ HT_) (fun _ _ _ h => h) (Or.inr ⟨by rfl, rfl⟩) ?_ ?_
     rotate_left
     ·simp only [Act.put, List.setIfInBounds_toArray, List.set_cons_zero, List.set_cons_succ, i64_w, i32_w]
      rfl
     refine pure_ (i := 11) (N := some 29) (v := undef) (a' := ?_) #[true, true, true, true, true, true, true, true, true, true, true, true, false, false, false, false, false, false, false, false, false, false, false] rfl rfl (ao_ HT_) (fun _ _ _ h => h) (Or.inr ⟨by rfl, rfl⟩) ?_ ?_
     rotate_left
     ·simp only [Act.put, List.setIfInBounds_toArray, List.set_cons_zero, List.set_cons_succ, i64_w, i32_w]
      rfl
     refine pure_ (i := 12) (N := some 30) (v := undef) (a' := ?_) #[true, true, true, true, true, true, true, true, true, true, true, true, true, false, false, false, false, false, false, false, false, false, false] rfl rfl (ao_ HT_) (fun _ _ _ h => h) (Or.inr ⟨by rfl, rfl⟩) ?_ ?_
     rotate_left
     ·simp only [Act.put, List.setIfInBounds_toArray, List.set_cons_zero, List.set_cons_succ, i64_w, i32_w]
      rfl
     refine pure_ (i := 13) (N := some 31) (v := undef) (a' := ?_) #[true, true, true, true, true, true, true, true, true, true, true, true, true, true, false, false, false, false, false, false, false, false, false] rfl rfl (ao_ HT_) (fun _ _ _ h => h) (Or.inr ⟨by rfl, rfl⟩) ?_ ?_
     rotate_left
     ·simp only [Act.put, List.setIfInBounds_toArray, List.set_cons_zero, List.set_cons_succ, i64_w, i32_w]
      rfl
     refine pure_ (i := 14) (N := some 32) (v := undef) (a' := ?_) #[true, true, true, true, true, true, true, true, true, true, true, true, true, true, true, false, false, false, false, false, false, false, false] rfl rfl (ao_ HT_) (fun _ _ _ h => h) (Or.inr ⟨by rfl, rfl⟩) ?_ ?_
     rotate_left
     ·simp only [Act.put, List.setIfInBounds_toArray, List.set_cons_zero, List.set_cons_succ, i64_w, i32_w]
      rfl
     refine pure_ (i := 15) (N := some 33) (v := undef) (a' := ?_) #[true, true, true, true, true, true, true, true, true, true, true, true, true, true, true, true, false, false, false, false, false, false, false] rfl rfl (ao_ HT_) (fun _ _ _ h => h) (Or.inr ⟨by rfl, rfl⟩) ?_ ?_
     rotate_left
     ·simp only [Act.put, List.setIfInBounds_toArray, List.set_cons_zero, List.set_cons_succ, i64_w, i32_w]
      rfl
     refine pure_ (i := 16) (N := some 34) (v := undef) (a' := ?_) #[true, true, true, true, true, true, true, true, true, true, true, true, true, true, true, true, true, false, false, false, false, false, false] rfl rfl (ao_ HT_) (fun _ _ _ h => h) (Or.inr ⟨by rfl, rfl⟩) ?_ ?_
     rotate_left
     ·simp only [Act.put, List.setIfInBounds_toArray, List.set_cons_zero, List.set_cons_succ, i64_w, i32_w]
      rfl
     refine pure_ (i := 17) (N := some 35) (v := undef) (a' := ?_) #[true, true, true, true, true, true, true, true, true, true, true, true, true, true, true, true, true, true, false, false, false, false, false] rfl rfl (ao_ HT_) (fun _ _ _ h => h) (Or.inr ⟨by rfl, rfl⟩) ?_ ?_
     rotate_left
     ·simp only [Act.put, List.setIfInBounds_toArray, List.set_cons_zero, List.set_cons_succ, i64_w, i32_w]
      rfl
     refine pure_ (i := 18) (N := some 36) (v := undef) (a' := ?_) #[true, true, true, true, true, true, true, true, true, true, true, true, true, true, true, true, true, true, true, false, false, false, false] rfl rfl (ao_ HT_) (fun _ _ _ h => h) (Or.inr ⟨by rfl, rfl⟩) ?_ ?_
     rotate_left
     ·simp only [Act.put, List.setIfInBounds_toArray, List.set_cons_zero, List.set_cons_succ, i64_w, i32_w]
      rfl
     refine pure_ (i := 19) (N := some 37) (v := undef) (a' := ?_) #[true, true, true, true, true, true, true, true, true, true, true, true, true, true, true, true, true, true, true, true, false, false, false] rfl rfl (ao_ HT_) (fun _ _ _ h => h) (Or.inr ⟨by rfl, rfl⟩) ?_ ?_
     rotate_left
     ·simp only [Act.put, List.setIfInBounds_toArray, List.set_cons_zero, List.set_cons_succ, i64_w, i32_w]
      rfl
     refine pure_ (i := 20) (N := some 38) (v := undef) (a' := ?_) #[true, true, true, true, true, true, true, true, true, true, true, true, true, true, true, true, true, true, true, true, true, false, false] rfl rfl (ao_ HT_) (fun _ _ _ h => h) (Or.inr ⟨by rfl, rfl⟩) ?_ ?_
     rotate_left
     ·simp only [Act.put, List.setIfInBounds_toArray, List.set_cons_zero, List.set_cons_succ, i64_w, i32_w]
      rfl
     refine pure_ (i := 21) (N := some 39) (v := undef) (a' := ?_) #[true, true, true, true, true, true, true, true, true, true, true, true, true, true, true, true, true, true, true, true, true, true, false] rfl rfl (ao_ HT_) (fun _ _ _ h => h) (Or.inr ⟨by rfl, rfl⟩) ?_ ?_
     rotate_left
     ·simp only [Act.put, List.setIfInBounds_toArray, List.set_cons_zero, List.set_cons_succ, i64_w, i32_w]
      rfl
     refine pureZ_ (i := 22) (some 40) #[true, true, true, true, true, true, true, true, true, true, true, true, true, true, true, true, true, true, true, true, true, true, true] (ao_ HT_) ?_
     refine done_ (done_of HT_.out (by kernel_rfl)) ?_
     try go_wp2
     go_roundg k1
     case measure => have := HK1.out; omega
     case rel => exact ⟨(x5_1), (wrap64 (x7_1 + 1)), rf_, H', ⟨by have := HK1.out; omega⟩, ⟨rr_ HO_5⟩, ⟨rr_ HO_6⟩, ⟨bk_ BK661⟩, ⟨bl_⟩⟩
   ·rw [if_neg c9] at H
    have c9b0 : decide (x7_1 < (l0.length : Int)) = false := decide_eq_false c9
    clear c9
    obtain rfl := Option.some.inj H
    go_wp2
    go_ret
    exact ⟨_, eq_, by (with_reducible repeat (first | apply Kd.R_alloc | apply Kd.R_drewN | apply Kd.R_drew)); exact HO_5.out, bl_⟩
def impl_Cred_38.f (l0 : List (S49)) : Option (List (S49)) := if l0.length < 1759218604441 then some l0 else none
set_option maxHeartbeats 8000000 in
set_option maxRecDepth 100000 in
theorem impl_Cred_38.calls (A0 : Option Addr) (c0 : Nat) (l0 : List (S49)) (r : List (S49)) (w : World) (hr0 : Kd.C k49 w A0 l0.length l0) (hc0 : l0.length ≤ c0) (h : impl_Cred_38.f l0 = some r) :
  Calls Try.prog 38 #[.slice A0 l0.length c0] w fun e w' => ∃ v0_ : Value, e = .returned (v0_) ∧ Kd.R k49 49 w' w.heap.size (fun _ => True) v0_ r ∧ Below w.heap.size w w' := by
 have HR0 := Aside0.mk hr0
 have HC0 := Aside0.mk hc0
 clear hr0 hc0
 have hq : ∀ (w : World) (a : Option Addr) (n c n' c' : Nat), (binOp .eql 24 (.slice a n c) (.slice none n' c')).run Try.prog w = .ok (.bool a.isNone) w := fun w a n c n' c' => Lib.run_eql_slice_nil w _ _ a n c n' c' Try.underlying24
 have HB := Aside0.mk (Below.refl w.heap.size w)
 unfold impl_Cred_38.f at h
 by_cases hl : l0.length < 1759218604441
 ·rw [if_pos hl] at h
  have LM := Aside0.mk hl
  clear hl
  obtain rfl := Option.some.inj h
  clear h
  cases A0 with
  | none =>
   have e0 : l0 = [] := by
    rcases l0 with _ | ⟨x, xs⟩
    ·rfl
    ·obtain ⟨ad, c, e, _⟩ := Kd.C_get HR0.out x 0 (by omega) (by rw [List.length_cons]; omega)
     cases e
   subst e0
   clear HR0 HC0 LM
   go_enter Try.func38, Try.ntmps38
   go_wp2
   go_ret
   exact ⟨_, eq_, Kd.R_nil _ _ _ _ _, bl_⟩
  | some ad =>
   obtain ⟨y1, hy1⟩ : ∃ y_ : List (S49), y_ = (([] : List (S49))) := ⟨_, rfl⟩
   have Ny1 := Aside0.mk hy1
   clear hy1
   go_enter Try.func38, Try.ntmps38
   go_wp2_with (first | ((with_reducible refine gate_dst (N := 5) rfl ?_); refine Kd.R_lit k49 _ 49 ?hg (N := 5) ?hd (xs := ([] : List (S49))) (inner := []) (ok := fun _ => True) (okp := fun _ => True) ?hr ?hp (fun _ hk => hk) trivial (Below.refl _ _) (Nat.le_refl _) (by simp) ?_; (case hd => rfl); (case hg => rfl); (case hr => first | (go_simp; done) | (go_simp; rfl)); (case hp => exact (Reps.none _ _)); intro v161 w9 ho10 hb hg_ hnew_; clear hg_ hnew_; (first | rw [← Ny1.out] at ho10 | (simp only [Int.reduceToNat] at ho10; rw [← Ny1.out] at ho10)); have HO162 := Aside0.mk (Kd.R_lower ho10 bls_); replace HB := hbs_ hb; clear hb ho10) | ((with_reducible refine gate_builtin (b := .append) (xs := #[.tmp 5, .tmp 6]) rfl ?_); at_builtin; refine Kd.R_append_rows k49 (w0 := w) w.heap.size rfl (.tmp 5) (.tmp 6) 24 49 (.agg #[(.int .i64 0), (.int .i64 0), (.int .i64 0), (.int .i64 0), (.int .i64 0), (.int .i64 0), (.int .i64 0), (.int .i64 0), (.int .i64 0), (.int .i64 0)]) 80 rfl Try.underlying24 info49 rfl (by decide) (by omega) v161 y1 l0 _ _ _ (fun _ => True) (fun _ => False) rfl rfl ?aO ?aR (fun _ _ h => h) (fun _ h => h.elim) ?aF ?aB ?aS ?aL ?_; (case aR => repeat (first | exact (Kd.C_below HR0.out HB.out) | (with_reducible refine Kd.C_alloc ?_ _) | (with_reducible refine Kd.C_drewN ?_ _) | (with_reducible refine Kd.C_drew ?_))); (case aB => exact bl_); (case aF => exact (fun _ _ => trivial)); (case aO => exact (rr_ HO162)); (case aS => exact bls_); (case aL => have := LM.out; rw [Ny1.out]; simp only [List.length_nil]; omega); intro v164 w11 ho hb hg hat; rw [Ny1.out, List.nil_append] at ho; replace HB := Aside0.mk (hb); have HO165 := Aside0.mk (ho); clear HO162; clear ho hb hg hat))
   go_ret
   exact ⟨_, eq_, by (with_reducible repeat (first | apply Kd.R_alloc | apply Kd.R_drewN | apply Kd.R_drew)); exact HO165.out, bl_⟩
 ·rw [if_neg hl] at h
  exact absurd h (by simp)
-- NOT PRINTED: function 40 (impl_Cred_40)
end Go.Proofs.Ytamhfnedknjjbaa.PB
