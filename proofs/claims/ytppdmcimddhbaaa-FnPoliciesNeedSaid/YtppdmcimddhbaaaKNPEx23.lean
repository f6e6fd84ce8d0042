import Derived.Test.YtppdmcimddhbaaaKNPEx22
-- printed by wip/tools
namespace Go.Proofs.Ytppdmcimddhbaaa.PE
open Go.RowKit Go.Proofs.YtppdmcimddhbaaaW.PrintWords Go.Proofs.YtppdmcimddhbaaaW.PrintLast Go.Proofs.YtppdmcimddhbaaaW.PrintMore
attribute [local go_sem] max2_int min2_int max_two min_two max_three min_three max_four min_four
set_option linter.unusedVariables false
set_option linter.unusedSimpArgs false
attribute [local go_sem high] eqA27
def spec_NeededFor.l0 : Nat → List (S46) → List (S46) → List (S27) → Int → Int → Int → Option ((List (S46)))
 | 0, _, _, _, _, _, _ => none
 | k + 1, x0, x5, x6, x7, x714000, x714001 => if x7 < (x0.length : Int) then (if 0 ≤ x7 then ((spec_CredOk.f k ((rd_T46 x0 x7).f0) ((rd_T46 x0 x7).f1.f0) ((rd_T46 x0 x7).f1.f1) ((rd_T46 x0 x7).f2) ((rd_T46 x0 x7).f3.f0) ((rd_T46 x0 x7).f3.f1) ((rd_T46 x0 x7).f4.f0) ((rd_T46 x0 x7).f4.f1) ((rd_T46 x0 x7).f5) ((rd_T46 x0 x7).f6)).bind fun t721 => (if t721 = true then (if (((rd_T46 x0 x7).f1.f0) == x714000 && (((rd_T46 x0 x7).f1.f1) == x714001)) = true then (if x5.length < 1759218604441 then (spec_NeededFor.l0 k x0 (x5 ++ [(⟨(rd_T46 x0 x7).f0, (⟨(rd_T46 x0 x7).f1.f0, (rd_T46 x0 x7).f1.f1⟩ : S27), (rd_T46 x0 x7).f2, (⟨(rd_T46 x0 x7).f3.f0, (rd_T46 x0 x7).f3.f1⟩ : S27), (⟨(rd_T46 x0 x7).f4.f0, (rd_T46 x0 x7).f4.f1⟩ : S27), (rd_T46 x0 x7).f5, (rd_T46 x0 x7).f6⟩ : S46)]) x6 (wrap64 (x7 + 1)) x714000 x714001) else (none)) else ((spec_l13Done.f k x6 ((rd_T46 x0 x7).f1.f0) ((rd_T46 x0 x7).f1.f1)).bind fun t728 => (if t728 = true then (if x5.length < 1759218604441 then (spec_NeededFor.l0 k x0 (x5 ++ [(⟨(rd_T46 x0 x7).f0, (⟨(rd_T46 x0 x7).f1.f0, (rd_T46 x0 x7).f1.f1⟩ : S27), (rd_T46 x0 x7).f2, (⟨(rd_T46 x0 x7).f3.f0, (rd_T46 x0 x7).f3.f1⟩ : S27), (⟨(rd_T46 x0 x7).f4.f0, (rd_T46 x0 x7).f4.f1⟩ : S27), (rd_T46 x0 x7).f5, (rd_T46 x0 x7).f6⟩ : S46)]) x6 (wrap64 (x7 + 1)) x714000 x714001) else (none)) else (spec_NeededFor.l0 k x0 x5 x6 (wrap64 (x7 + 1)) x714000 x714001)))) else (spec_NeededFor.l0 k x0 x5 x6 (wrap64 (x7 + 1)) x714000 x714001))) else (none)) else (some x5)
def spec_NeededFor.f (k : Nat) (l0 : List (S46)) (a1_0 : Int) (a1_1 : Int) : Option ((List (S46))) := (spec_ReachRoles.f k l0 a1_0 a1_1).bind fun t717 => (spec_NeededFor.l0 k l0 (([] : List (S46))) t717 0 a1_0 a1_1)
def spec_NeededFor.T6 : Bool × List (List Nat × List Nat) := (true, [([], []), ([], []), ([0, 1], [0, 1]), ([2], [2]), ([3], [3]), ([4, 4], [4]), ([5], [5]), ([5], [5]), ([6, 7, 5], [5, 6, 7]), ([8, 5], [5, 8]), ([9, 5], [5, 9]), ([5], [5]), ([10, 11, 5], [5, 10, 11]), ([12, 5, 5], [5, 12]), ([13], [13]), ([13], [13]), ([13], [13]), ([15, 16, 13], [13, 15, 16]), ([17, 13], [13, 17]), ([18, 13], [13, 18]), ([14, 19, 13, 13], [13, 14, 19]), ([13, 20, 5], [5, 13, 20]), ([5, 21], [5, 21])])
def spec_NeededFor.B6 : List Nat := [0, 0, 3, 7, 15, 31, 63, 63, 255, 511, 1023, 63, 4095, 8191, 16383, 16383, 16383, 114687, 245759, 507903, 1048575, 2097151, 4194303]
theorem spec_NeededFor.tab6 : rtab .any (opsOf Try.f67 6) = spec_NeededFor.T6 := by kernel_rfl
theorem spec_NeededFor.bits6 : waitsOk spec_NeededFor.T6.2 spec_NeededFor.B6 = true := by kernel_rfl
set_option maxHeartbeats 8000000 in
set_option maxRecDepth 100000 in
theorem spec_NeededFor.calls (k : Nat) (A0 : Option Addr) (c0 : Nat) (l0 : List (S46)) (a1_0 : Int) (a1_1 : Int) (r : List (S46)) (w : World) (hr0 : Kd.C k46 w A0 l0.length l0) (hc0 : l0.length ≤ c0) (h : spec_NeededFor.f k l0 a1_0 a1_1 = some r) :
  Calls Try.prog 67 #[.slice A0 l0.length c0, .agg #[.int .i64 a1_0, .int .i64 a1_1]] w fun e w' => ∃ v0_ : Value, e = .returned (v0_) ∧ Kd.R k46 46 w' w.heap.size (fun _ => True) v0_ r ∧ Below w.heap.size w w' := by
 have hu27 := Try.underlying27
 have hu46 := Try.underlying46
 have HR0 := Aside0.mk hr0
 have HC0 := Aside0.mk hc0
 clear hr0 hc0
 have HB := Aside0.mk (Below.refl w.heap.size w)
 have H : ((spec_ReachRoles.f k l0 a1_0 a1_1).bind fun t717 => (spec_NeededFor.l0 k l0 (([] : List (S46))) t717 0 a1_0 a1_1)) = some r := h
 clear h
 obtain ⟨y714, hy714⟩ : ∃ y_ : List (S46), y_ = (([] : List (S46))) := ⟨_, rfl⟩
 replace H : ((spec_ReachRoles.f k l0 a1_0 a1_1).bind fun t717 => (spec_NeededFor.l0 k l0 y714 t717 0 a1_0 a1_1)) = some r := by first | (rw [hy714]; with_reducible exact H) | (have H2_ := (Option.bind_some _ _).symm.trans H; rw [hy714]; with_reducible exact H2_) | (have H2_ := (Option.bind_some _ _).symm.trans H; with_reducible exact H2_) | with_reducible exact H | (rw [hy714]; exact H) | exact H
 have Ny714 := Aside0.mk hy714
 clear hy714
 obtain ⟨t717, A3, H⟩ := bindE_ H
 have H' := Aside0.mk H
 clear H
 go_enter Try.func67, Try.ntmps67
 go_wp2_with (first | ((with_reducible refine gate_dst (N := 3) rfl ?_); refine box_event ?hg (N := 3) ?hd (cs := #[.int .i64 a1_0, .int .i64 a1_1]) (t := 27) ?hr ?_; (case hd => rfl); (case hg => rfl); (case hr => first | (go_simp; done) | (go_simp; rfl)); intro gb713 hg w4 hbox hb; have BK713 := Aside0.mk (hbox); have GW713 := gs_ hg; have GE713 := gs_ hg; replace HB := hbs_ hb; clear hb hbox hg) | ((with_reducible refine gate_dst (N := 8) rfl ?_); refine Kd.R_lit k46 _ 46 ?hg (N := 8) ?hd (xs := ([] : List (S46))) (inner := []) (ok := fun _ => True) (okp := fun _ => True) ?hr ?hp (fun _ hk => hk) trivial (Below.refl _ _) (Nat.le_refl _) (by simp) ?_; (case hd => rfl); (case hg => rfl); (case hr => first | (go_simp; done) | (go_simp; rfl)); (case hp => exact (Reps.none _ _)); intro v715 w5 ho6 hb hg_ hnew_; clear hg_ hnew_; (first | rw [← Ny714.out] at ho6 | (simp only [Int.reduceToNat] at ho6; rw [← Ny714.out] at ho6)); have HO716 := Aside0.mk (Kd.R_lower ho6 bls_); replace BK713 := bkb_ BK713 hb; replace HB := hbs_ hb; clear hb ho6; have hcz7 := blk_cell BK713.out; have hfz7 := blk_frozen BK713.out) | ((with_reducible refine gate_callee (f := 114) rfl ?_); refine goesC_ (some 11) Try.func114 #[.slice A0 l0.length c0, .agg #[.int .i64 a1_0, .int .i64 a1_1]] ?_; (with_reducible refine (spec_ReachRoles.calls k _ _ l0 a1_0 a1_1 t717 _ ?side1 ?side2 A3.out).mono ?_); (case side1 => repeat (first | exact (Kd.C_below HR0.out HB.out) | (with_reducible refine Kd.C_alloc ?_ _) | (with_reducible refine Kd.C_drewN ?_ _) | (with_reducible refine Kd.C_drew ?_))); (case side2 => exact HC0.out); rintro e w8 ⟨v718, rfl, ho0, hb⟩; refine ⟨_, rfl, ?_⟩; replace HO716 := hob_ HO716 hb; have HO719 := Aside0.mk (Kd.R_lower (Kd.R_newB ho0 (g := gb713) (o := .cells #[.int .i64 a1_0, .int .i64 a1_1] 27 (0, 0)) (bk_ BK713)) bls_); replace BK713 := bkb_ BK713 hb; replace HB := hbs_ hb; (try clear hb); (try clear hb2); (try clear hk); (try clear hi); (try clear ho0)))
 go_loopg [5, 7] k (fun kq v5 v7 w' => ∃ (x5_1 : List (S46)) (x7_1 : Int), v7 = .int .i64 x7_1 ∧ Aside0 (spec_NeededFor.l0 kq l0 x5_1 t717 x7_1 a1_0 a1_1 = some r) ∧ Aside0 (kq ≤ k) ∧ Aside0 (Kd.R k46 46 w' w.heap.size (fun _ => True) v5 x5_1) ∧ Aside0 (Kd.R k27 27 w' w.heap.size (fun k_ => k_ ≠ gb713) v718 t717) ∧ Aside0 (w'.heap[gb713]? = some (.cells #[.int .i64 a1_0, .int .i64 a1_1] 27 (0, 0))) ∧ Aside0 (Below w.heap.size w w'))
 case atStart => exact ⟨(y714), (0), rf_, H', ⟨Nat.le_refl _⟩, ⟨by (with_reducible repeat (first | apply Kd.R_alloc | apply Kd.R_drewN | apply Kd.R_drew)); exact HO716.out⟩, ⟨by (with_reducible repeat (first | apply Kd.R_alloc | apply Kd.R_drewN | apply Kd.R_drew)); exact Kd.R_mono HO719.out (fun _ hk => hk.2)⟩, ⟨bk_ BK713⟩, ⟨bl_⟩⟩
 case round =>
  clear H'
  try clear c1
  try clear p2
  try clear c6
  try clear hcz7
  try clear hfz7
  obtain ⟨x5_1, x7_1, rfl, HA, HK1, HO_5, HO_6, BK713, HB⟩ := hrel
  cases gk with
  | zero => exact absurd HA.out (by simp [spec_NeededFor.l0])
  | succ k1 =>
   have H := HA.out
   clear HA
   simp only [spec_NeededFor.l0] at H
   by_cases c9 : x7_1 < (l0.length : Int)
   ·rw [if_pos c9] at H
    have c9b0 : decide (x7_1 < (l0.length : Int)) = true := decide_eq_true c9
    clear c9
    obtain ⟨c10b0, H⟩ := ifd_ H
    obtain ⟨t721, A11, H⟩ := bindE_ H
    by_cases c12 : t721 = true
    ·subst c12
     replace H := ite_t_ H
     by_cases c13 : (((rd_T46 l0 x7_1).f1.f0) == a1_0 && (((rd_T46 l0 x7_1).f1.f1) == a1_1)) = true
     ·rw [if_pos c13] at H
      have c13b0 : (((rd_T46 l0 x7_1).f1.f0) == a1_0 && (((rd_T46 l0 x7_1).f1.f1) == a1_1)) = true := c13
      (try (have c13b1 : decide (((rd_T46 l0 x7_1).f1.f0) = a1_0 && (((rd_T46 l0 x7_1).f1.f1) == a1_1)) = true := by simpa using c13))
      (try (have c13b2 : (((rd_T46 l0 x7_1).f1.f0) == a1_0 && (((rd_T46 l0 x7_1).f1.f1) == a1_1)) = true := by simpa using c13))
      clear c13
      obtain ⟨c14, H⟩ := ifn_ H
      have LMc14 := Aside0.mk c14
      clear c14
      obtain ⟨y724, hy724⟩ : ∃ y_ : List (S46), y_ = (x5_1 ++ [(⟨(rd_T46 l0 x7_1).f0, (⟨(rd_T46 l0 x7_1).f1.f0, (rd_T46 l0 x7_1).f1.f1⟩ : S27), (rd_T46 l0 x7_1).f2, (⟨(rd_T46 l0 x7_1).f3.f0, (rd_T46 l0 x7_1).f3.f1⟩ : S27), (⟨(rd_T46 l0 x7_1).f4.f0, (rd_T46 l0 x7_1).f4.f1⟩ : S27), (rd_T46 l0 x7_1).f5, (rd_T46 l0 x7_1).f6⟩ : S46)]) := ⟨_, rfl⟩
      replace H : (spec_NeededFor.l0 k1 l0 y724 t717 (wrap64 (x7_1 + 1)) a1_0 a1_1) = some r := by first | (rw [hy724]; with_reducible exact H) | (have H2_ := (Option.bind_some _ _).symm.trans H; rw [hy724]; with_reducible exact H2_) | (have H2_ := (Option.bind_some _ _).symm.trans H; with_reducible exact H2_) | with_reducible exact H | (rw [hy724]; exact H) | exact H
      have Ny724 := Aside0.mk hy724
      clear hy724
      have H' := Aside0.mk H
      clear H
      try go_wp2
      replace HO_5 := Aside0.mk (Kd.R_drew HO_5.out)
      replace HO_6 := Aside0.mk (Kd.R_drew HO_6.out)
      replace BK713 := Aside0.mk (blk_drew BK713.out)
      replace HB := Aside0.mk (below_drew1 HB.out)
      have p720 : 0 ≤ (x7_1 : Int) := od_
      have q720 : x7_1 < (l0.length : Int) := od_
      obtain ⟨ad720, e720, hx720_0, hx720_1, hx720_2, hx720_3, hx720_4, hx720_5, hx720_6, hx720_7, hx720_8, hx720_9⟩ := at_T46 HR0.out x7_1 p720 q720
      have hw720_9 := hx720_9
      have hw720_8 := hx720_8
      have hw720_7 := hx720_7
      have hw720_6 := hx720_6
      have hw720_5 := hx720_5
      have hw720_4 := hx720_4
      have hw720_3 := hx720_3
      have hw720_2 := hx720_2
      have hw720_1 := hx720_1
      have hw720_0 := hx720_0
      cases e720
      replace hx720_0 := cb_ HB hx720_0
      replace hx720_1 := cb_ HB hx720_1
      replace hx720_2 := cb_ HB hx720_2
      replace hx720_3 := cb_ HB hx720_3
      replace hx720_4 := cb_ HB hx720_4
      replace hx720_5 := cb_ HB hx720_5
      replace hx720_6 := cb_ HB hx720_6
      replace hx720_7 := cb_ HB hx720_7
      replace hx720_8 := cb_ HB hx720_8
      replace hx720_9 := cb_ HB hx720_9
      replace p720 := eq_true p720
      replace q720 := eq_true q720
      have p722 : 0 ≤ (x7_1 : Int) := od_
      have q722 : x7_1 < (l0.length : Int) := od_
      obtain ⟨ad722, e722, hx722_0, hx722_1, hx722_2, hx722_3, hx722_4, hx722_5, hx722_6, hx722_7, hx722_8, hx722_9⟩ := at_T46 HR0.out x7_1 p722 q722
      have hw722_9 := hx722_9
      have hw722_8 := hx722_8
      have hw722_7 := hx722_7
      have hw722_6 := hx722_6
      have hw722_5 := hx722_5
      have hw722_4 := hx722_4
      have hw722_3 := hx722_3
      have hw722_2 := hx722_2
      have hw722_1 := hx722_1
      have hw722_0 := hx722_0
      obtain rfl : ad720 = ad722 := (by injection e722)
      replace hx722_0 := cb_ HB hx722_0
      replace hx722_1 := cb_ HB hx722_1
      replace hx722_2 := cb_ HB hx722_2
      replace hx722_3 := cb_ HB hx722_3
      replace hx722_4 := cb_ HB hx722_4
      replace hx722_5 := cb_ HB hx722_5
      replace hx722_6 := cb_ HB hx722_6
      replace hx722_7 := cb_ HB hx722_7
      replace hx722_8 := cb_ HB hx722_8
      replace hx722_9 := cb_ HB hx722_9
      replace p722 := eq_true p722
      replace q722 := eq_true q722
      refine start_ (n := 23) (S := fun w' => w'.cell? ⟨gb713, 0, none⟩ = some (.int .i64 a1_0) ∧ w'.cell? ⟨gb713, 1, none⟩ = some (.int .i64 a1_1) ∧ w'.cell? (ad720.add ((x7_1).toNat * 10)) = some (.int .i64 ((rd_T46 l0 x7_1).f0)) ∧ w'.cell? ⟨(ad720.add ((x7_1).toNat * 10)).block, (ad720.add ((x7_1).toNat * 10)).off + 1, none⟩ = some (.int .i64 ((rd_T46 l0 x7_1).f1.f0)) ∧ w'.cell? ⟨(ad720.add ((x7_1).toNat * 10)).block, (ad720.add ((x7_1).toNat * 10)).off + 2, none⟩ = some (.int .i64 ((rd_T46 l0 x7_1).f1.f1)) ∧ w'.cell? ⟨(ad720.add ((x7_1).toNat * 10)).block, (ad720.add ((x7_1).toNat * 10)).off + 3, none⟩ = some (.int .i64 ((rd_T46 l0 x7_1).f2)) ∧ w'.cell? ⟨(ad720.add ((x7_1).toNat * 10)).block, (ad720.add ((x7_1).toNat * 10)).off + 4, none⟩ = some (.int .i64 ((rd_T46 l0 x7_1).f3.f0)) ∧ w'.cell? ⟨(ad720.add ((x7_1).toNat * 10)).block, (ad720.add ((x7_1).toNat * 10)).off + 5, none⟩ = some (.int .i64 ((rd_T46 l0 x7_1).f3.f1)) ∧ w'.cell? ⟨(ad720.add ((x7_1).toNat * 10)).block, (ad720.add ((x7_1).toNat * 10)).off + 6, none⟩ = some (.int .i64 ((rd_T46 l0 x7_1).f4.f0)) ∧ w'.cell? ⟨(ad720.add ((x7_1).toNat * 10)).block, (ad720.add ((x7_1).toNat * 10)).off + 7, none⟩ = some (.int .i64 ((rd_T46 l0 x7_1).f4.f1)) ∧ w'.cell? ⟨(ad720.add ((x7_1).toNat * 10)).block, (ad720.add ((x7_1).toNat * 10)).off + 8, none⟩ = some (.int .i64 ((rd_T46 l0 x7_1).f5)) ∧ w'.cell? ⟨(ad720.add ((x7_1).toNat * 10)).block, (ad720.add ((x7_1).toNat * 10)).off + 9, none⟩ = some (.int .i64 ((rd_T46 l0 x7_1).f6)) ∧ w'.cell? (ad720.add ((x7_1).toNat * 10)) = some (.int .i64 ((rd_T46 l0 x7_1).f0)) ∧ w'.cell? ⟨(ad720.add ((x7_1).toNat * 10)).block, (ad720.add ((x7_1).toNat * 10)).off + 1, none⟩ = some (.int .i64 ((rd_T46 l0 x7_1).f1.f0)) ∧ w'.cell? ⟨(ad720.add ((x7_1).toNat * 10)).block, (ad720.add ((x7_1).toNat * 10)).off + 2, none⟩ = some (.int .i64 ((rd_T46 l0 x7_1).f1.f1)) ∧ w'.cell? ⟨(ad720.add ((x7_1).toNat * 10)).block, (ad720.add ((x7_1).toNat * 10)).off + 3, none⟩ = some (.int .i64 ((rd_T46 l0 x7_1).f2)) ∧ w'.cell? ⟨(ad720.add ((x7_1).toNat * 10)).block, (ad720.add ((x7_1).toNat * 10)).off + 4, none⟩ = some (.int .i64 ((rd_T46 l0 x7_1).f3.f0)) ∧ w'.cell? ⟨(ad720.add ((x7_1).toNat * 10)).block, (ad720.add ((x7_1).toNat * 10)).off + 5, none⟩ = some (.int .i64 ((rd_T46 l0 x7_1).f3.f1)) ∧ w'.cell? ⟨(ad720.add ((x7_1).toNat * 10)).block, (ad720.add ((x7_1).toNat * 10)).off + 6, none⟩ = some (.int .i64 ((rd_T46 l0 x7_1).f4.f0)) ∧ w'.cell? ⟨(ad720.add ((x7_1).toNat * 10)).block, (ad720.add ((x7_1).toNat * 10)).off + 7, none⟩ = some (.int .i64 ((rd_T46 l0 x7_1).f4.f1)) ∧ w'.cell? ⟨(ad720.add ((x7_1).toNat * 10)).block, (ad720.add ((x7_1).toNat * 10)).off + 8, none⟩ = some (.int .i64 ((rd_T46 l0 x7_1).f5)) ∧ w'.cell? ⟨(ad720.add ((x7_1).toNat * 10)).block, (ad720.add ((x7_1).toNat * 10)).off + 9, none⟩ = some (.int .i64 ((rd_T46 l0 x7_1).f6))) (ds := []) #[false, false, false, false, false, false, false, false, false, false, false, false, false, false, false, false, false, false, false, false, false, false, false] (by kernel_rfl) rfl rfl ⟨(blk_cell BK713.out 0).trans rfl, (blk_cell BK713.out 1).trans rfl, ((HB.out.cell (World.block_lt_of_cell? w _ hw720_0)).trans hw720_0), ((HB.out.cell (World.block_lt_of_cell? w _ hw720_1)).trans hw720_1), ((HB.out.cell (World.block_lt_of_cell? w _ hw720_2)).trans hw720_2), ((HB.out.cell (World.block_lt_of_cell? w _ hw720_3)).trans hw720_3), ((HB.out.cell (World.block_lt_of_cell? w _ hw720_4)).trans hw720_4), ((HB.out.cell (World.block_lt_of_cell? w _ hw720_5)).trans hw720_5), ((HB.out.cell (World.block_lt_of_cell? w _ hw720_6)).trans hw720_6), ((HB.out.cell (World.block_lt_of_cell? w _ hw720_7)).trans hw720_7), ((HB.out.cell (World.block_lt_of_cell? w _ hw720_8)).trans hw720_8), ((HB.out.cell (World.block_lt_of_cell? w _ hw720_9)).trans hw720_9), ((HB.out.cell (World.block_lt_of_cell? w _ hw722_0)).trans hw722_0), ((HB.out.cell (World.block_lt_of_cell? w _ hw722_1)).trans hw722_1), ((HB.out.cell (World.block_lt_of_cell? w _ hw722_2)).trans hw722_2), ((HB.out.cell (World.block_lt_of_cell? w _ hw722_3)).trans hw722_3), ((HB.out.cell (World.block_lt_of_cell? w _ hw722_4)).trans hw722_4), ((HB.out.cell (World.block_lt_of_cell? w _ hw722_5)).trans hw722_5), ((HB.out.cell (World.block_lt_of_cell? w _ hw722_6)).trans hw722_6), ((HB.out.cell (World.block_lt_of_cell? w _ hw722_7)).trans hw722_7), ((HB.out.cell (World.block_lt_of_cell? w _ hw722_8)).trans hw722_8), ((HB.out.cell (World.block_lt_of_cell? w _ hw722_9)).trans hw722_9)⟩ (fun hHeld => ?_); refine with_tabW spec_NeededFor.tab6 spec_NeededFor.bits6 (fun HT_ HW_ => ?_)
      generalize wr.drew = w15 at HO_5 HO_6 BK713 HB hx720_0 hx720_1 hx720_2 hx720_3 hx720_4 hx720_5 hx720_6 hx720_7 hx720_8 hx720_9 hx722_0 hx722_1 hx722_2 hx722_3 hx722_4 hx722_5 hx722_6 hx722_7 hx722_8 hx722_9 hHeld ⊢
      refine pureZ_ (i := 0) (some 18) #[true, false, false, false, false, false, false, false, false, false, false, false, false, false, false, false, false, false, false, false, false, false, false] (any_of HT_.out (by kernel_rfl)) ?_
      refine pureZ_ (i := 1) (some 19) #[true, true, false, false, false, false, false, false, false, false, false, false, false, false, false, false, false, false, false, false, false, false, false] (any_of HT_.out (by kernel_rfl)) ?_
      refine pureZ_ (i := 2) (some 20) #[true, true, true, false, false, false, false, false, false, false, false, false, false, false, false, false, false, false, false, false, false, false, false] (any_of HT_.out (by kernel_rfl)) ?_
      refine takeZ_ (i := 3) (some 21) #[true, true, true, true, false, false, false, false, false, false, false, false, false, false, false, false, false, false, false, false, false, false, false] (take_ofW HT_.out HW_.out (by kernel_rfl)) hHeld ?_
      refine one_ (i := 4) (N := some 22) #[true, true, true, true, true, false, false, false, false, false, false, false, false, false, false, false, false, false, false, false, false, false, false] rfl rfl (one_of HT_.out (by kernel_rfl)) (by decide) (fun K hK => ?_)
      refine goes_ Try.func115 (by kernel_rfl) rfl #[.agg #[.int .i64 ((rd_T46 l0 x7_1).f0), .int .i64 ((rd_T46 l0 x7_1).f1.f0), .int .i64 ((rd_T46 l0 x7_1).f1.f1), .int .i64 ((rd_T46 l0 x7_1).f2), .int .i64 ((rd_T46 l0 x7_1).f3.f0), .int .i64 ((rd_T46 l0 x7_1).f3.f1), .int .i64 ((rd_T46 l0 x7_1).f4.f0), .int .i64 ((rd_T46 l0 x7_1).f4.f1), .int .i64 ((rd_T46 l0 x7_1).f5), .int .i64 ((rd_T46 l0 x7_1).f6)]] (by rfl) rfl rfl (by (try simp only [List.map_toArray, List.map_cons, List.map_nil]); first | done | rfl | (simp only [List.length_drop, List.length_take]; rfl)) ?_
      with_reducible refine (spec_CredOk.calls k1 ((rd_T46 l0 x7_1).f0) ((rd_T46 l0 x7_1).f1.f0) ((rd_T46 l0 x7_1).f1.f1) ((rd_T46 l0 x7_1).f2) ((rd_T46 l0 x7_1).f3.f0) ((rd_T46 l0 x7_1).f3.f1) ((rd_T46 l0 x7_1).f4.f0) ((rd_T46 l0 x7_1).f4.f1) ((rd_T46 l0 x7_1).f5) ((rd_T46 l0 x7_1).f6) true _ A11.out).mono ?_
      rintro e w16 ⟨rfl, hb⟩
      refine ⟨_, rfl, ?_⟩
      replace HO_5 := hob_ HO_5 hb
      replace HO_6 := hob_ HO_6 hb
      replace BK713 := bkb_ BK713 hb
      replace HB := hbs_ hb
      (try clear hb)
      (try clear hb2)
      (try clear hk)
      (try clear hi)
      refine hK.out _ _ ⟨(blk_cell BK713.out 0).trans rfl, (blk_cell BK713.out 1).trans rfl, ((HB.out.cell (World.block_lt_of_cell? w _ hw720_0)).trans hw720_0), ((HB.out.cell (World.block_lt_of_cell? w _ hw720_1)).trans hw720_1), ((HB.out.cell (World.block_lt_of_cell? w _ hw720_2)).trans hw720_2), ((HB.out.cell (World.block_lt_of_cell? w _ hw720_3)).trans hw720_3), ((HB.out.cell (World.block_lt_of_cell? w _ hw720_4)).trans hw720_4), ((HB.out.cell (World.block_lt_of_cell? w _ hw720_5)).trans hw720_5), ((HB.out.cell (World.block_lt_of_cell? w _ hw720_6)).trans hw720_6), ((HB.out.cell (World.block_lt_of_cell? w _ hw720_7)).trans hw720_7), ((HB.out.cell (World.block_lt_of_cell? w _ hw720_8)).trans hw720_8), ((HB.out.cell (World.block_lt_of_cell? w _ hw720_9)).trans hw720_9), ((HB.out.cell (World.block_lt_of_cell? w _ hw722_0)).trans hw722_0), ((HB.out.cell (World.block_lt_of_cell? w _ hw722_1)).trans hw722_1), ((HB.out.cell (World.block_lt_of_cell? w _ hw722_2)).trans hw722_2), ((HB.out.cell (World.block_lt_of_cell? w _ hw722_3)).trans hw722_3), ((HB.out.cell (World.block_lt_of_cell? w _ hw722_4)).trans hw722_4), ((HB.out.cell (World.block_lt_of_cell? w _ hw722_5)).trans hw722_5), ((HB.out.cell (World.block_lt_of_cell? w _ hw722_6)).trans hw722_6), ((HB.out.cell (World.block_lt_of_cell? w _ hw722_7)).trans hw722_7), ((HB.out.cell (World.block_lt_of_cell? w _ hw722_8)).trans hw722_8), ((HB.out.cell (World.block_lt_of_cell? w _ hw722_9)).trans hw722_9)⟩ (fun hHeld => ?_)
      clear hK K
      refine norm_ (a' := ?_) ?_ ?_
      rotate_left
      ·show Act.put _ (some 22) _ = _
       simp only [Act.put, List.setIfInBounds_toArray, List.set_cons_zero, List.set_cons_succ, i64_w, i32_w]
       rfl
      refine pureZ_ (i := 5) (some 23) #[true, true, true, true, true, true, false, false, false, false, false, false, false, false, false, false, false, false, false, false, false, false, false] (any_of HT_.out (by kernel_rfl)) ?_
      refine pureZ_ (i := 6) (some 24) #[true, true, true, true, true, true, true, false, false, false, false, false, false, false, false, false, false, false, false, false, false, false, false] (any_of HT_.out (by kernel_rfl)) ?_
      refine pureZ_ (i := 7) (some 25) #[true, true, true, true, true, true, true, true, false, false, false, false, false, false, false, false, false, false, false, false, false, false, false] (any_of HT_.out (by kernel_rfl)) ?_
      refine pureZ_ (i := 8) (some 26) #[true, true, true, true, true, true, true, true, true, false, false, false, false, false, false, false, false, false, false, false, false, false, false] (any_of HT_.out (by kernel_rfl)) ?_
      refine pureZ_ (i := 9) (some 27) #[true, true, true, true, true, true, true, true, true, true, false, false, false, false, false, false, false, false, false, false, false, false, false] (any_of HT_.out (by kernel_rfl)) ?_
      refine takeZ_ (i := 10) (some 28) #[true, true, true, true, true, true, true, true, true, true, true, false, false, false, false, false, false, false, false, false, false, false, false] (take_ofW HT_.out HW_.out (by kernel_rfl)) hHeld ?_
      refine takeZ_ (i := 11) (some 29) #[true, true, true, true, true, true, true, true, true, true, true, true, false, false, false, false, false, false, false, false, false, false, false] (take_ofW HT_.out HW_.out (by kernel_rfl)) hHeld ?_
      refine pureZ_ (i := 12) (some 30) #[true, true, true, true, true, true, true, true, true, true, true, true, true, false, false, false, false, false, false, false, false, false, false] (any_of HT_.out (by kernel_rfl)) ?_
      refine pureZ_ (i := 13) (some 31) #[true, true, true, true, true, true, true, true, true, true, true, true, true, true, false, false, false, false, false, false, false, false, false] (any_of HT_.out (by kernel_rfl)) ?_
      refine pure_ (i := 14) (N := some 32) (v := undef) (a' := ?_) #[true, true, true, true, true, true, true, true, true, true, true, true, true, true, true, false, false, false, false, false, false, false, false] rfl rfl (any_of HT_.out (by kernel_rfl)) (fun _ _ _ h => h) (Or.inr ⟨by rfl, rfl⟩) ?_ ?_
      rotate_left
      ·simp only [Act.put, List.setIfInBounds_toArray, List.set_cons_zero, List.set_cons_succ, i64_w, i32_w]
       rfl
      refine pure_ (i := 15) (N := some 33) (v := undef) (a' := ?_) #[true, true, true, true, true, true, true, true, true, true, true, true, true, true, true, true, false, false, false, false, false, false, false] rfl rfl (any_of HT_.out (by kernel_rfl)) (fun _ _ _ h => h) (Or.inr ⟨by rfl, rfl⟩) ?_ ?_
      rotate_left
      ·simp only [Act.put, List.setIfInBounds_toArray, List.set_cons_zero, List.set_cons_succ, i64_w, i32_w]
       rfl
      refine pure_ (i := 16) (N := some 34) (v := undef) (a' := ?_) #[true, true, true, true, true, true, true, true, true, true, true, true, true, true, true, true, true, false, false, false, false, false, false] rfl rfl (any_of HT_.out (by kernel_rfl)) (fun _ _ _ h => h) (Or.inr ⟨by rfl, rfl⟩) ?_ ?_
      rotate_left
      ·simp only [Act.put, List.setIfInBounds_toArray, List.set_cons_zero, List.set_cons_succ, i64_w, i32_w]
       rfl
      refine pure_ (i := 17) (N := some 35) (v := undef) (a' := ?_) #[true, true, true, true, true, true, true, true, true, true, true, true, true, true, true, true, true, true, false, false, false, false, false] rfl rfl (any_of HT_.out (by kernel_rfl)) (fun _ _ _ h => h) (Or.inr ⟨by rfl, rfl⟩) ?_ ?_
      rotate_left
      ·simp only [Act.put, List.setIfInBounds_toArray, List.set_cons_zero, List.set_cons_succ, i64_w, i32_w]
       rfl
      refine pure_ (i := 18) (N := some 36) (v := undef) (a' := ?_) #[true, true, true, true, true, true, true, true, true, true, true, true, true, true, true, true, true, true, true, false, false, false, false] rfl rfl (any_of HT_.out (by kernel_rfl)) (fun _ _ _ h => h) (Or.inr ⟨by rfl, rfl⟩) ?_ ?_
      rotate_left
      ·simp only [Act.put, List.setIfInBounds_toArray, List.set_cons_zero, List.set_cons_succ, i64_w, i32_w]
       rfl
      refine pure_ (i := 19) (N := some 37) (v := undef) (a' := ?_) #[true, true, true, true, true, true, true, true, true, true, true, true, true, true, true, true, true, true, true, true, false, false, false] rfl rfl (any_of HT_.out (by kernel_rfl)) (fun _ _ _ h => h) (Or.inr ⟨by rfl, rfl⟩) ?_ ?_
      rotate_left
      ·simp only [Act.put, List.setIfInBounds_toArray, List.set_cons_zero, List.set_cons_succ, i64_w, i32_w]
       rfl
      refine pure_ (i := 20) (N := some 38) (v := undef) (a' := ?_) #[true, true, true, true, true, true, true, true, true, true, true, true, true, true, true, true, true, true, true, true, true, false, false] rfl rfl (any_of HT_.out (by kernel_rfl)) (fun _ _ _ h => h) (Or.inr ⟨by rfl, rfl⟩) ?_ ?_
      rotate_left
      ·simp only [Act.put, List.setIfInBounds_toArray, List.set_cons_zero, List.set_cons_succ, i64_w, i32_w]
       rfl
      refine pureZ_ (i := 21) (some 39) #[true, true, true, true, true, true, true, true, true, true, true, true, true, true, true, true, true, true, true, true, true, true, false] (any_of HT_.out (by kernel_rfl)) ?_
      refine pureZ_ (i := 22) (some 40) #[true, true, true, true, true, true, true, true, true, true, true, true, true, true, true, true, true, true, true, true, true, true, true] (any_of HT_.out (by kernel_rfl)) ?_
      refine done_ (done_of HT_.out (by kernel_rfl)) ?_
      have p723 : 0 ≤ (x7_1 : Int) := od_
      have q723 : x7_1 < (l0.length : Int) := od_
      obtain ⟨ad723, e723, hx723_0, hx723_1, hx723_2, hx723_3, hx723_4, hx723_5, hx723_6, hx723_7, hx723_8, hx723_9⟩ := at_T46 HR0.out x7_1 p723 q723
      obtain rfl : ad720 = ad723 := (by injection e723)
      replace hx723_0 := cb_ HB hx723_0
      replace hx723_1 := cb_ HB hx723_1
      replace hx723_2 := cb_ HB hx723_2
      replace hx723_3 := cb_ HB hx723_3
      replace hx723_4 := cb_ HB hx723_4
      replace hx723_5 := cb_ HB hx723_5
      replace hx723_6 := cb_ HB hx723_6
      replace hx723_7 := cb_ HB hx723_7
      replace hx723_8 := cb_ HB hx723_8
      replace hx723_9 := cb_ HB hx723_9
      replace p723 := eq_true p723
      replace q723 := eq_true q723
      try go_wp2_with (first | ((with_reducible refine gate_builtin (b := .append) (xs := #[.tmp 41, .tmp 46]) rfl ?_); at_builtin; refine Kd.R_append k46 (w0 := w) w.heap.size rfl (.tmp 41) (.tmp 46) 24 46 (.agg #[(.int .i64 0), (.int .i64 0), (.int .i64 0), (.int .i64 0), (.int .i64 0), (.int .i64 0), (.int .i64 0), (.int .i64 0), (.int .i64 0), (.int .i64 0)]) 80 rfl Try.underlying24 info46 rfl (by decide) (by omega) u5 x5_1 (⟨(rd_T46 l0 x7_1).f0, (⟨(rd_T46 l0 x7_1).f1.f0, (rd_T46 l0 x7_1).f1.f1⟩ : S27), (rd_T46 l0 x7_1).f2, (⟨(rd_T46 l0 x7_1).f3.f0, (rd_T46 l0 x7_1).f3.f1⟩ : S27), (⟨(rd_T46 l0 x7_1).f4.f0, (rd_T46 l0 x7_1).f4.f1⟩ : S27), (rd_T46 l0 x7_1).f5, (rd_T46 l0 x7_1).f6⟩ : S46) [.int .i64 ((rd_T46 l0 x7_1).f0), .int .i64 ((rd_T46 l0 x7_1).f1.f0), .int .i64 ((rd_T46 l0 x7_1).f1.f1), .int .i64 ((rd_T46 l0 x7_1).f2), .int .i64 ((rd_T46 l0 x7_1).f3.f0), .int .i64 ((rd_T46 l0 x7_1).f3.f1), .int .i64 ((rd_T46 l0 x7_1).f4.f0), .int .i64 ((rd_T46 l0 x7_1).f4.f1), .int .i64 ((rd_T46 l0 x7_1).f5), .int .i64 ((rd_T46 l0 x7_1).f6)] (fun _ => True) (fun _ => False) rfl rfl ?aP (fun _ hk => hk.elim) ?aF ?aO ?aB ?aS ?aL ?_; (case aP => exact k46_mkM _ _ _ (⟨(rd_T46 l0 x7_1).f0, (⟨(rd_T46 l0 x7_1).f1.f0, (rd_T46 l0 x7_1).f1.f1⟩ : S27), (rd_T46 l0 x7_1).f2, (⟨(rd_T46 l0 x7_1).f3.f0, (rd_T46 l0 x7_1).f3.f1⟩ : S27), (⟨(rd_T46 l0 x7_1).f4.f0, (rd_T46 l0 x7_1).f4.f1⟩ : S27), (rd_T46 l0 x7_1).f5, (rd_T46 l0 x7_1).f6⟩ : S46)); (case aB => exact bl_); (case aF => exact (fun _ _ => trivial)); (case aO => exact (by (with_reducible repeat (first | apply Kd.R_alloc | apply Kd.R_drewN | apply Kd.R_drew)); exact HO_5.out)); (case aS => exact bls_); (case aL => have := LMc14.out; omega); intro v725 w17 ho hb hg hat; rw [← Ny724.out] at ho; replace HO_6 := Aside0.mk (Kd.R_over' (by (with_reducible repeat (first | apply Kd.R_alloc | apply Kd.R_drewN | apply Kd.R_drew)); exact HO_6.out) (Kd.R_typed (by (with_reducible repeat (first | apply Kd.R_alloc | apply Kd.R_drewN | apply Kd.R_drew)); exact HO_5.out)) (by decide) hg); replace BK713 := Aside0.mk (blk_grown (g := gb713) (o := .cells #[.int .i64 a1_0, .int .i64 a1_1] 27 (0, 0)) (bk_ BK713) hg (Kd.R_ne HO_5.out BK713.out (by decide))); replace HB := Aside0.mk (hb); have HO726 := Aside0.mk (ho); clear HO_5; clear ho hb hg hat))
      go_roundg k1
      case measure => have := HK1.out; omega
      case rel => exact ⟨(y724), (wrap64 (x7_1 + 1)), rf_, H', ⟨by have := HK1.out; omega⟩, ⟨by (with_reducible repeat (first | apply Kd.R_alloc | apply Kd.R_drewN | apply Kd.R_drew)); exact HO726.out⟩, ⟨by (with_reducible repeat (first | apply Kd.R_alloc | apply Kd.R_drewN | apply Kd.R_drew)); exact HO_6.out⟩, ⟨bk_ BK713⟩, ⟨bl_⟩⟩
     ·rw [if_neg c13] at H
      have c13b0 : (((rd_T46 l0 x7_1).f1.f0) == a1_0 && (((rd_T46 l0 x7_1).f1.f1) == a1_1)) = false := by simpa using c13
      (try (have c13b1 : decide (((rd_T46 l0 x7_1).f1.f0) = a1_0 && (((rd_T46 l0 x7_1).f1.f1) == a1_1)) = false := by simpa using c13))
      (try (have c13b2 : (((rd_T46 l0 x7_1).f1.f0) == a1_0 && (((rd_T46 l0 x7_1).f1.f1) == a1_1)) = false := by simpa using c13))
      (try (have c13b3 : ¬ (((rd_T46 l0 x7_1).f1.f0) = a1_0 && (((rd_T46 l0 x7_1).f1.f1) == a1_1)) := by simpa using c13))
      clear c13
      obtain ⟨t728, A18, H⟩ := bindE_ H
      by_cases c19 : t728 = true
      ·subst c19
       replace H := ite_t_ H
       obtain ⟨c20, H⟩ := ifn_ H
       have LMc20 := Aside0.mk c20
       clear c20
       obtain ⟨y730, hy730⟩ : ∃ y_ : List (S46), y_ = (x5_1 ++ [(⟨(rd_T46 l0 x7_1).f0, (⟨(rd_T46 l0 x7_1).f1.f0, (rd_T46 l0 x7_1).f1.f1⟩ : S27), (rd_T46 l0 x7_1).f2, (⟨(rd_T46 l0 x7_1).f3.f0, (rd_T46 l0 x7_1).f3.f1⟩ : S27), (⟨(rd_T46 l0 x7_1).f4.f0, (rd_T46 l0 x7_1).f4.f1⟩ : S27), (rd_T46 l0 x7_1).f5, (rd_T46 l0 x7_1).f6⟩ : S46)]) := ⟨_, rfl⟩
       replace H : (spec_NeededFor.l0 k1 l0 y730 t717 (wrap64 (x7_1 + 1)) a1_0 a1_1) = some r := by first | (rw [hy730]; with_reducible exact H) | (have H2_ := (Option.bind_some _ _).symm.trans H; rw [hy730]; with_reducible exact H2_) | (have H2_ := (Option.bind_some _ _).symm.trans H; with_reducible exact H2_) | with_reducible exact H | (rw [hy730]; exact H) | exact H
       have Ny730 := Aside0.mk hy730
       clear hy730
       have H' := Aside0.mk H
       clear H
       try go_wp2
       replace HO_5 := Aside0.mk (Kd.R_drew HO_5.out)
       replace HO_6 := Aside0.mk (Kd.R_drew HO_6.out)
       replace BK713 := Aside0.mk (blk_drew BK713.out)
       replace HB := Aside0.mk (below_drew1 HB.out)
       have p720 : 0 ≤ (x7_1 : Int) := od_
       have q720 : x7_1 < (l0.length : Int) := od_
       obtain ⟨ad720, e720, hx720_0, hx720_1, hx720_2, hx720_3, hx720_4, hx720_5, hx720_6, hx720_7, hx720_8, hx720_9⟩ := at_T46 HR0.out x7_1 p720 q720
       have hw720_9 := hx720_9
       have hw720_8 := hx720_8
       have hw720_7 := hx720_7
       have hw720_6 := hx720_6
       have hw720_5 := hx720_5
       have hw720_4 := hx720_4
       have hw720_3 := hx720_3
       have hw720_2 := hx720_2
       have hw720_1 := hx720_1
       have hw720_0 := hx720_0
       cases e720
       replace hx720_0 := cb_ HB hx720_0
       replace hx720_1 := cb_ HB hx720_1
       replace hx720_2 := cb_ HB hx720_2
       replace hx720_3 := cb_ HB hx720_3
       replace hx720_4 := cb_ HB hx720_4
       replace hx720_5 := cb_ HB hx720_5
       replace hx720_6 := cb_ HB hx720_6
       replace hx720_7 := cb_ HB hx720_7
       replace hx720_8 := cb_ HB hx720_8
       replace hx720_9 := cb_ HB hx720_9
       replace p720 := eq_true p720
       replace q720 := eq_true q720
       have p722 : 0 ≤ (x7_1 : Int) := od_
       have q722 : x7_1 < (l0.length : Int) := od_
       obtain ⟨ad722, e722, hx722_0, hx722_1, hx722_2, hx722_3, hx722_4, hx722_5, hx722_6, hx722_7, hx722_8, hx722_9⟩ := at_T46 HR0.out x7_1 p722 q722
       have hw722_9 := hx722_9
       have hw722_8 := hx722_8
       have hw722_7 := hx722_7
       have hw722_6 := hx722_6
       have hw722_5 := hx722_5
       have hw722_4 := hx722_4
       have hw722_3 := hx722_3
       have hw722_2 := hx722_2
       have hw722_1 := hx722_1
       have hw722_0 := hx722_0
       obtain rfl : ad720 = ad722 := (by injection e722)
       replace hx722_0 := cb_ HB hx722_0
       replace hx722_1 := cb_ HB hx722_1
       replace hx722_2 := cb_ HB hx722_2
       replace hx722_3 := cb_ HB hx722_3
       replace hx722_4 := cb_ HB hx722_4
       replace hx722_5 := cb_ HB hx722_5
       replace hx722_6 := cb_ HB hx722_6
       replace hx722_7 := cb_ HB hx722_7
       replace hx722_8 := cb_ HB hx722_8
       replace hx722_9 := cb_ HB hx722_9
       replace p722 := eq_true p722
       replace q722 := eq_true q722
       have p727 : 0 ≤ (x7_1 : Int) := od_
       have q727 : x7_1 < (l0.length : Int) := od_
       obtain ⟨ad727, e727, hx727_0, hx727_1, hx727_2, hx727_3, hx727_4, hx727_5, hx727_6, hx727_7, hx727_8, hx727_9⟩ := at_T46 HR0.out x7_1 p727 q727
       have hw727_9 := hx727_9
       have hw727_8 := hx727_8
       have hw727_7 := hx727_7
       have hw727_6 := hx727_6
       have hw727_5 := hx727_5
       have hw727_4 := hx727_4
       have hw727_3 := hx727_3
       have hw727_2 := hx727_2
       have hw727_1 := hx727_1
       have hw727_0 := hx727_0
       obtain rfl : ad720 = ad727 := (by injection e727)
       replace hx727_0 := cb_ HB hx727_0
       replace hx727_1 := cb_ HB hx727_1
       replace hx727_2 := cb_ HB hx727_2
       replace hx727_3 := cb_ HB hx727_3
       replace hx727_4 := cb_ HB hx727_4
       replace hx727_5 := cb_ HB hx727_5
       replace hx727_6 := cb_ HB hx727_6
       replace hx727_7 := cb_ HB hx727_7
       replace hx727_8 := cb_ HB hx727_8
       replace hx727_9 := cb_ HB hx727_9
       replace p727 := eq_true p727
       replace q727 := eq_true q727
       refine start_ (n := 23) (S := fun w' => w'.cell? ⟨gb713, 0, none⟩ = some (.int .i64 a1_0) ∧ w'.cell? ⟨gb713, 1, none⟩ = some (.int .i64 a1_1) ∧ w'.cell? (ad720.add ((x7_1).toNat * 10)) = some (.int .i64 ((rd_T46 l0 x7_1).f0)) ∧ w'.cell? ⟨(ad720.add ((x7_1).toNat * 10)).block, (ad720.add ((x7_1).toNat * 10)).off + 1, none⟩ = some (.int .i64 ((rd_T46 l0 x7_1).f1.f0)) ∧ w'.cell? ⟨(ad720.add ((x7_1).toNat * 10)).block, (ad720.add ((x7_1).toNat * 10)).off + 2, none⟩ = some (.int .i64 ((rd_T46 l0 x7_1).f1.f1)) ∧ w'.cell? ⟨(ad720.add ((x7_1).toNat * 10)).block, (ad720.add ((x7_1).toNat * 10)).off + 3, none⟩ = some (.int .i64 ((rd_T46 l0 x7_1).f2)) ∧ w'.cell? ⟨(ad720.add ((x7_1).toNat * 10)).block, (ad720.add ((x7_1).toNat * 10)).off + 4, none⟩ = some (.int .i64 ((rd_T46 l0 x7_1).f3.f0)) ∧ w'.cell? ⟨(ad720.add ((x7_1).toNat * 10)).block, (ad720.add ((x7_1).toNat * 10)).off + 5, none⟩ = some (.int .i64 ((rd_T46 l0 x7_1).f3.f1)) ∧ w'.cell? ⟨(ad720.add ((x7_1).toNat * 10)).block, (ad720.add ((x7_1).toNat * 10)).off + 6, none⟩ = some (.int .i64 ((rd_T46 l0 x7_1).f4.f0)) ∧ w'.cell? ⟨(ad720.add ((x7_1).toNat * 10)).block, (ad720.add ((x7_1).toNat * 10)).off + 7, none⟩ = some (.int .i64 ((rd_T46 l0 x7_1).f4.f1)) ∧ w'.cell? ⟨(ad720.add ((x7_1).toNat * 10)).block, (ad720.add ((x7_1).toNat * 10)).off + 8, none⟩ = some (.int .i64 ((rd_T46 l0 x7_1).f5)) ∧ w'.cell? ⟨(ad720.add ((x7_1).toNat * 10)).block, (ad720.add ((x7_1).toNat * 10)).off + 9, none⟩ = some (.int .i64 ((rd_T46 l0 x7_1).f6)) ∧ w'.cell? (ad720.add ((x7_1).toNat * 10)) = some (.int .i64 ((rd_T46 l0 x7_1).f0)) ∧ w'.cell? ⟨(ad720.add ((x7_1).toNat * 10)).block, (ad720.add ((x7_1).toNat * 10)).off + 1, none⟩ = some (.int .i64 ((rd_T46 l0 x7_1).f1.f0)) ∧ w'.cell? ⟨(ad720.add ((x7_1).toNat * 10)).block, (ad720.add ((x7_1).toNat * 10)).off + 2, none⟩ = some (.int .i64 ((rd_T46 l0 x7_1).f1.f1)) ∧ w'.cell? ⟨(ad720.add ((x7_1).toNat * 10)).block, (ad720.add ((x7_1).toNat * 10)).off + 3, none⟩ = some (.int .i64 ((rd_T46 l0 x7_1).f2)) ∧ w'.cell? ⟨(ad720.add ((x7_1).toNat * 10)).block, (ad720.add ((x7_1).toNat * 10)).off + 4, none⟩ = some (.int .i64 ((rd_T46 l0 x7_1).f3.f0)) ∧ w'.cell? ⟨(ad720.add ((x7_1).toNat * 10)).block, (ad720.add ((x7_1).toNat * 10)).off + 5, none⟩ = some (.int .i64 ((rd_T46 l0 x7_1).f3.f1)) ∧ w'.cell? ⟨(ad720.add ((x7_1).toNat * 10)).block, (ad720.add ((x7_1).toNat * 10)).off + 6, none⟩ = some (.int .i64 ((rd_T46 l0 x7_1).f4.f0)) ∧ w'.cell? ⟨(ad720.add ((x7_1).toNat * 10)).block, (ad720.add ((x7_1).toNat * 10)).off + 7, none⟩ = some (.int .i64 ((rd_T46 l0 x7_1).f4.f1)) ∧ w'.cell? ⟨(ad720.add ((x7_1).toNat * 10)).block, (ad720.add ((x7_1).toNat * 10)).off + 8, none⟩ = some (.int .i64 ((rd_T46 l0 x7_1).f5)) ∧ w'.cell? ⟨(ad720.add ((x7_1).toNat * 10)).block, (ad720.add ((x7_1).toNat * 10)).off + 9, none⟩ = some (.int .i64 ((rd_T46 l0 x7_1).f6)) ∧ w'.cell? (ad720.add ((x7_1).toNat * 10)) = some (.int .i64 ((rd_T46 l0 x7_1).f0)) ∧ w'.cell? ⟨(ad720.add ((x7_1).toNat * 10)).block, (ad720.add ((x7_1).toNat * 10)).off + 1, none⟩ = some (.int .i64 ((rd_T46 l0 x7_1).f1.f0)) ∧ w'.cell? ⟨(ad720.add ((x7_1).toNat * 10)).block, (ad720.add ((x7_1).toNat * 10)).off + 2, none⟩ = some (.int .i64 ((rd_T46 l0 x7_1).f1.f1)) ∧ w'.cell? ⟨(ad720.add ((x7_1).toNat * 10)).block, (ad720.add ((x7_1).toNat * 10)).off + 3, none⟩ = some (.int .i64 ((rd_T46 l0 x7_1).f2)) ∧ w'.cell? ⟨(ad720.add ((x7_1).toNat * 10)).block, (ad720.add ((x7_1).toNat * 10)).off + 4, none⟩ = some (.int .i64 ((rd_T46 l0 x7_1).f3.f0)) ∧ w'.cell? ⟨(ad720.add ((x7_1).toNat * 10)).block, (ad720.add ((x7_1).toNat * 10)).off + 5, none⟩ = some (.int .i64 ((rd_T46 l0 x7_1).f3.f1)) ∧ w'.cell? ⟨(ad720.add ((x7_1).toNat * 10)).block, (ad720.add ((x7_1).toNat * 10)).off + 6, none⟩ = some (.int .i64 ((rd_T46 l0 x7_1).f4.f0)) ∧ w'.cell? ⟨(ad720.add ((x7_1).toNat * 10)).block, (ad720.add ((x7_1).toNat * 10)).off + 7, none⟩ = some (.int .i64 ((rd_T46 l0 x7_1).f4.f1)) ∧ w'.cell? ⟨(ad720.add ((x7_1).toNat * 10)).block, (ad720.add ((x7_1).toNat * 10)).off + 8, none⟩ = some (.int .i64 ((rd_T46 l0 x7_1).f5)) ∧ w'.cell? ⟨(ad720.add ((x7_1).toNat * 10)).block, (ad720.add ((x7_1).toNat * 10)).off + 9, none⟩ = some (.int .i64 ((rd_T46 l0 x7_1).f6))) (ds := []) #[false, false, false, false, false, false, false, false, false, false, false, false, false, false, false, false, false, false, false, false, false, false, false] (by kernel_rfl) rfl rfl ⟨(blk_cell BK713.out 0).trans rfl, (blk_cell BK713.out 1).trans rfl, ((HB.out.cell (World.block_lt_of_cell? w _ hw720_0)).trans hw720_0), ((HB.out.cell (World.block_lt_of_cell? w _ hw720_1)).trans hw720_1), ((HB.out.cell (World.block_lt_of_cell? w _ hw720_2)).trans hw720_2), ((HB.out.cell (World.block_lt_of_cell? w _ hw720_3)).trans hw720_3), ((HB.out.cell (World.block_lt_of_cell? w _ hw720_4)).trans hw720_4), ((HB.out.cell (World.block_lt_of_cell? w _ hw720_5)).trans hw720_5), ((HB.out.cell (World.block_lt_of_cell? w _ hw720_6)).trans hw720_6), ((HB.out.cell (World.block_lt_of_cell? w _ hw720_7)).trans hw720_7), ((HB.out.cell (World.block_lt_of_cell? w _ hw720_8)).trans hw720_8), ((HB.out.cell (World.block_lt_of_cell? w _ hw720_9)).trans hw720_9), ((HB.out.cell (World.block_lt_of_cell? w _ hw722_0)).trans hw722_0), ((HB.out.cell (World.block_lt_of_cell? w _ hw722_1)).trans hw722_1), ((HB.out.cell (World.block_lt_of_cell? w _ hw722_2)).trans hw722_2), ((HB.out.cell (World.block_lt_of_cell? w _ hw722_3)).trans hw722_3), ((HB.out.cell (World.block_lt_of_cell? w _ hw722_4)).trans hw722_4), ((HB.out.cell (World.block_lt_of_cell? w _ hw722_5)).trans hw722_5), ((HB.out.cell (World.block_lt_of_cell? w _ hw722_6)).trans hw722_6), ((HB.out.cell (World.block_lt_of_cell? w _ hw722_7)).trans hw722_7), ((HB.out.cell (World.block_lt_of_cell? w _ hw722_8)).trans hw722_8), ((HB.out.cell (World.block_lt_of_cell? w _ hw722_9)).trans hw722_9), ((HB.out.cell (World.block_lt_of_cell? w _ hw727_0)).trans hw727_0), ((HB.out.cell (World.block_lt_of_cell? w _ hw727_1)).trans hw727_1), ((HB.out.cell (World.block_lt_of_cell? w _ hw727_2)).trans hw727_2), ((HB.out.cell (World.block_lt_of_cell? w _ hw727_3)).trans hw727_3), ((HB.out.cell (World.block_lt_of_cell? w _ hw727_4)).trans hw727_4), ((HB.out.cell (World.block_lt_of_cell? w _ hw727_5)).trans hw727_5), ((HB.out.cell (World.block_lt_of_cell? w _ hw727_6)).trans hw727_6), ((HB.out.cell (World.block_lt_of_cell? w _ hw727_7)).trans hw727_7), ((HB.out.cell (World.block_lt_of_cell? w _ hw727_8)).trans hw727_8), ((HB.out.cell (World.block_lt_of_cell? w _ hw727_9)).trans hw727_9)⟩ (fun hHeld => ?_); refine with_tabW spec_NeededFor.tab6 spec_NeededFor.bits6 (fun HT_ HW_ => ?_)
       generalize wr.drew = w21 at HO_5 HO_6 BK713 HB hx720_0 hx720_1 hx720_2 hx720_3 hx720_4 hx720_5 hx720_6 hx720_7 hx720_8 hx720_9 hx722_0 hx722_1 hx722_2 hx722_3 hx722_4 hx722_5 hx722_6 hx722_7 hx722_8 hx722_9 hx727_0 hx727_1 hx727_2 hx727_3 hx727_4 hx727_5 hx727_6 hx727_7 hx727_8 hx727_9 hHeld ⊢
       refine pureZ_ (i := 0) (some 18) #[true, false, false, false, false, false, false, false, false, false, false, false, false, false, false, false, false, false, false, false, false, false, false] (any_of HT_.out (by kernel_rfl)) ?_
       refine pureZ_ (i := 1) (some 19) #[true, true, false, false, false, false, false, false, false, false, false, false, false, false, false, false, false, false, false, false, false, false, false] (any_of HT_.out (by kernel_rfl)) ?_
       refine pureZ_ (i := 2) (some 20) #[true, true, true, false, false, false, false, false, false, false, false, false, false, false, false, false, false, false, false, false, false, false, false] (any_of HT_.out (by kernel_rfl)) ?_
       refine takeZ_ (i := 3) (some 21) #[true, true, true, true, false, false, false, false, false, false, false, false, false, false, false, false, false, false, false, false, false, false, false] (take_ofW HT_.out HW_.out (by kernel_rfl)) hHeld ?_
       refine one_ (i := 4) (N := some 22) #[true, true, true, true, true, false, false, false, false, false, false, false, false, false, false, false, false, false, false, false, false, false, false] rfl rfl (one_of HT_.out (by kernel_rfl)) (by decide) (fun K hK => ?_)
       refine goes_ Try.func115 (by kernel_rfl) rfl #[.agg #[.int .i64 ((rd_T46 l0 x7_1).f0), .int .i64 ((rd_T46 l0 x7_1).f1.f0), .int .i64 ((rd_T46 l0 x7_1).f1.f1), .int .i64 ((rd_T46 l0 x7_1).f2), .int .i64 ((rd_T46 l0 x7_1).f3.f0), .int .i64 ((rd_T46 l0 x7_1).f3.f1), .int .i64 ((rd_T46 l0 x7_1).f4.f0), .int .i64 ((rd_T46 l0 x7_1).f4.f1), .int .i64 ((rd_T46 l0 x7_1).f5), .int .i64 ((rd_T46 l0 x7_1).f6)]] (by rfl) rfl rfl (by (try simp only [List.map_toArray, List.map_cons, List.map_nil]); first | done | rfl | (simp only [List.length_drop, List.length_take]; rfl)) ?_
       with_reducible refine (spec_CredOk.calls k1 ((rd_T46 l0 x7_1).f0) ((rd_T46 l0 x7_1).f1.f0) ((rd_T46 l0 x7_1).f1.f1) ((rd_T46 l0 x7_1).f2) ((rd_T46 l0 x7_1).f3.f0) ((rd_T46 l0 x7_1).f3.f1) ((rd_T46 l0 x7_1).f4.f0) ((rd_T46 l0 x7_1).f4.f1) ((rd_T46 l0 x7_1).f5) ((rd_T46 l0 x7_1).f6) true _ A11.out).mono ?_
       rintro e w22 ⟨rfl, hb⟩
       refine ⟨_, rfl, ?_⟩
       replace HO_5 := hob_ HO_5 hb
       replace HO_6 := hob_ HO_6 hb
       replace BK713 := bkb_ BK713 hb
       replace HB := hbs_ hb
       (try clear hb)
       (try clear hb2)
       (try clear hk)
       (try clear hi)
       obtain ⟨Ao23, co23, eo23⟩ := Kd.R_slice HO_6.out
       (first | subst eo23 | (injection eo23 with f1_ f2_ f3_; have f4_ := f1_.symm; have f5_ := f3_.symm; clear f1_ f2_ f3_; subst f4_; subst f5_))
       refine hK.out _ _ ⟨(blk_cell BK713.out 0).trans rfl, (blk_cell BK713.out 1).trans rfl, ((HB.out.cell (World.block_lt_of_cell? w _ hw720_0)).trans hw720_0), ((HB.out.cell (World.block_lt_of_cell? w _ hw720_1)).trans hw720_1), ((HB.out.cell (World.block_lt_of_cell? w _ hw720_2)).trans hw720_2), ((HB.out.cell (World.block_lt_of_cell? w _ hw720_3)).trans hw720_3), ((HB.out.cell (World.block_lt_of_cell? w _ hw720_4)).trans hw720_4), ((HB.out.cell (World.block_lt_of_cell? w _ hw720_5)).trans hw720_5), ((HB.out.cell (World.block_lt_of_cell? w _ hw720_6)).trans hw720_6), ((HB.out.cell (World.block_lt_of_cell? w _ hw720_7)).trans hw720_7), ((HB.out.cell (World.block_lt_of_cell? w _ hw720_8)).trans hw720_8), ((HB.out.cell (World.block_lt_of_cell? w _ hw720_9)).trans hw720_9), ((HB.out.cell (World.block_lt_of_cell? w _ hw722_0)).trans hw722_0), ((HB.out.cell (World.block_lt_of_cell? w _ hw722_1)).trans hw722_1), ((HB.out.cell (World.block_lt_of_cell? w _ hw722_2)).trans hw722_2), ((HB.out.cell (World.block_lt_of_cell? w _ hw722_3)).trans hw722_3), ((HB.out.cell (World.block_lt_of_cell? w _ hw722_4)).trans hw722_4), ((HB.out.cell (World.block_lt_of_cell? w _ hw722_5)).trans hw722_5), ((HB.out.cell (World.block_lt_of_cell? w _ hw722_6)).trans hw722_6), ((HB.out.cell (World.block_lt_of_cell? w _ hw722_7)).trans hw722_7), ((HB.out.cell (World.block_lt_of_cell? w _ hw722_8)).trans hw722_8), ((HB.out.cell (World.block_lt_of_cell? w _ hw722_9)).trans hw722_9), ((HB.out.cell (World.block_lt_of_cell? w _ hw727_0)).trans hw727_0), ((HB.out.cell (World.block_lt_of_cell? w _ hw727_1)).trans hw727_1), ((HB.out.cell (World.block_lt_of_cell? w _ hw727_2)).trans hw727_2), ((HB.out.cell (World.block_lt_of_cell? w _ hw727_3)).trans hw727_3), ((HB.out.cell (World.block_lt_of_cell? w _ hw727_4)).trans hw727_4), ((HB.out.cell (World.block_lt_of_cell? w _ hw727_5)).trans hw727_5), ((HB.out.cell (World.block_lt_of_cell? w _ hw727_6)).trans hw727_6), ((HB.out.cell (World.block_lt_of_cell? w _ hw727_7)).trans hw727_7), ((HB.out.cell (World.block_lt_of_cell? w _ hw727_8)).trans hw727_8), ((HB.out.cell (World.block_lt_of_cell? w _ hw727_9)).trans hw727_9)⟩ (fun hHeld => ?_)
       clear hK K
       refine norm_ (a' := ?_) ?_ ?_
       rotate_left
       ·show Act.put _ (some 22) _ = _
        simp only [Act.put, List.setIfInBounds_toArray, List.set_cons_zero, List.set_cons_succ, i64_w, i32_w]
        rfl
       refine pureZ_ (i := 5) (some 23) #[true, true, true, true, true, true, false, false, false, false, false, false, false, false, false, false, false, false, false, false, false, false, false] (any_of HT_.out (by kernel_rfl)) ?_
       refine pureZ_ (i := 6) (some 24) #[true, true, true, true, true, true, true, false, false, false, false, false, false, false, false, false, false, false, false, false, false, false, false] (any_of HT_.out (by kernel_rfl)) ?_
       refine pureZ_ (i := 7) (some 25) #[true, true, true, true, true, true, true, true, false, false, false, false, false, false, false, false, false, false, false, false, false, false, false] (any_of HT_.out (by kernel_rfl)) ?_
       refine pureZ_ (i := 8) (some 26) #[true, true, true, true, true, true, true, true, true, false, false, false, false, false, false, false, false, false, false, false, false, false, false] (any_of HT_.out (by kernel_rfl)) ?_
       refine pureZ_ (i := 9) (some 27) #[true, true, true, true, true, true, true, true, true, true, false, false, false, false, false, false, false, false, false, false, false, false, false] (any_of HT_.out (by kernel_rfl)) ?_
       refine takeZ_ (i := 10) (some 28) #[true, true, true, true, true, true, true, true, true, true, true, false, false, false, false, false, false, false, false, false, false, false, false] (take_ofW HT_.out HW_.out (by kernel_rfl)) hHeld ?_
       refine takeZ_ (i := 11) (some 29) #[true, true, true, true, true, true, true, true, true, true, true, true, false, false, false, false, false, false, false, false, false, false, false] (take_ofW HT_.out HW_.out (by kernel_rfl)) hHeld ?_
       refine pureZ_ (i := 12) (some 30) #[true, true, true, true, true, true, true, true, true, true, true, true, true, false, false, false, false, false, false, false, false, false, false] (any_of HT_.out (by kernel_rfl)) ?_
       refine pureZ_ (i := 13) (some 31) #[true, true, true, true, true, true, true, true, true, true, true, true, true, true, false, false, false, false, false, false, false, false, false] (any_of HT_.out (by kernel_rfl)) ?_
       refine pureZ_ (i := 14) (some 32) #[true, true, true, true, true, true, true, true, true, true, true, true, true, true, true, false, false, false, false, false, false, false, false] (any_of HT_.out (by kernel_rfl)) ?_
       refine pureZ_ (i := 15) (some 33) #[true, true, true, true, true, true, true, true, true, true, true, true, true, true, true, true, false, false, false, false, false, false, false] (any_of HT_.out (by kernel_rfl)) ?_
       refine pureZ_ (i := 16) (some 34) #[true, true, true, true, true, true, true, true, true, true, true, true, true, true, true, true, true, false, false, false, false, false, false] (any_of HT_.out (by kernel_rfl)) ?_
       refine pureZ_ (i := 17) (some 35) #[true, true, true, true, true, true, true, true, true, true, true, true, true, true, true, true, true, true, false, false, false, false, false] (any_of HT_.out (by kernel_rfl)) ?_
       refine pureZ_ (i := 18) (some 36) #[true, true, true, true, true, true, true, true, true, true, true, true, true, true, true, true, true, true, true, false, false, false, false] (any_of HT_.out (by kernel_rfl)) ?_
       refine takeZ_ (i := 19) (some 37) #[true, true, true, true, true, true, true, true, true, true, true, true, true, true, true, true, true, true, true, true, false, false, false] (take_ofW HT_.out HW_.out (by kernel_rfl)) hHeld ?_
       refine one_ (i := 20) (N := some 38) #[true, true, true, true, true, true, true, true, true, true, true, true, true, true, true, true, true, true, true, true, true, false, false] rfl rfl (one_of HT_.out (by kernel_rfl)) (by decide) (fun K hK => ?_)
       refine goes_ Try.func116 (by kernel_rfl) rfl #[.slice Ao23 t717.length co23, .agg #[.int .i64 ((rd_T46 l0 x7_1).f1.f0), .int .i64 ((rd_T46 l0 x7_1).f1.f1)]] (by rfl) rfl rfl (by (try simp only [List.map_toArray, List.map_cons, List.map_nil]); first | done | rfl | (simp only [List.length_drop, List.length_take]; rfl)) ?_
       with_reducible refine (spec_l13Done.calls k1 _ _ t717 ((rd_T46 l0 x7_1).f1.f0) ((rd_T46 l0 x7_1).f1.f1) true _ ?side1 ?side2 A18.out).mono ?_
       (case side1 => repeat (first | exact (Kd.R_reads' HO_6.out).2.2 | (with_reducible refine Kd.C_alloc ?_ _) | (with_reducible refine Kd.C_drewN ?_ _) | (with_reducible refine Kd.C_drew ?_)))
       (case side2 => exact (Kd.R_reads' HO_6.out).2.1)
       rintro e w24 ⟨rfl, hb⟩
       refine ⟨_, rfl, ?_⟩
       replace HO_5 := hob_ HO_5 hb
       replace HO_6 := hob_ HO_6 hb
       replace BK713 := bkb_ BK713 hb
       replace HB := hbs_ hb
       (try clear hb)
       (try clear hb2)
       (try clear hk)
       (try clear hi)
       refine hK.out _ _ ⟨(blk_cell BK713.out 0).trans rfl, (blk_cell BK713.out 1).trans rfl, ((HB.out.cell (World.block_lt_of_cell? w _ hw720_0)).trans hw720_0), ((HB.out.cell (World.block_lt_of_cell? w _ hw720_1)).trans hw720_1), ((HB.out.cell (World.block_lt_of_cell? w _ hw720_2)).trans hw720_2), ((HB.out.cell (World.block_lt_of_cell? w _ hw720_3)).trans hw720_3), ((HB.out.cell (World.block_lt_of_cell? w _ hw720_4)).trans hw720_4), ((HB.out.cell (World.block_lt_of_cell? w _ hw720_5)).trans hw720_5), ((HB.out.cell (World.block_lt_of_cell? w _ hw720_6)).trans hw720_6), ((HB.out.cell (World.block_lt_of_cell? w _ hw720_7)).trans hw720_7), ((HB.out.cell (World.block_lt_of_cell? w _ hw720_8)).trans hw720_8), ((HB.out.cell (World.block_lt_of_cell? w _ hw720_9)).trans hw720_9), ((HB.out.cell (World.block_lt_of_cell? w _ hw722_0)).trans hw722_0), ((HB.out.cell (World.block_lt_of_cell? w _ hw722_1)).trans hw722_1), ((HB.out.cell (World.block_lt_of_cell? w _ hw722_2)).trans hw722_2), ((HB.out.cell (World.block_lt_of_cell? w _ hw722_3)).trans hw722_3), ((HB.out.cell (World.block_lt_of_cell? w _ hw722_4)).trans hw722_4), ((HB.out.cell (World.block_lt_of_cell? w _ hw722_5)).trans hw722_5), ((HB.out.cell (World.block_lt_of_cell? w _ hw722_6)).trans hw722_6), ((HB.out.cell (World.block_lt_of_cell? w _ hw722_7)).trans hw722_7), ((HB.out.cell (World.block_lt_of_cell? w _ hw722_8)).trans hw722_8), ((HB.out.cell (World.block_lt_of_cell? w _ hw722_9)).trans hw722_9), ((HB.out.cell (World.block_lt_of_cell? w _ hw727_0)).trans hw727_0), ((HB.out.cell (World.block_lt_of_cell? w _ hw727_1)).trans hw727_1), ((HB.out.cell (World.block_lt_of_cell? w _ hw727_2)).trans hw727_2), ((HB.out.cell (World.block_lt_of_cell? w _ hw727_3)).trans hw727_3), ((HB.out.cell (World.block_lt_of_cell? w _ hw727_4)).trans hw727_4), ((HB.out.cell (World.block_lt_of_cell? w _ hw727_5)).trans hw727_5), ((HB.out.cell (World.block_lt_of_cell? w _ hw727_6)).trans hw727_6), ((HB.out.cell (World.block_lt_of_cell? w _ hw727_7)).trans hw727_7), ((HB.out.cell (World.block_lt_of_cell? w _ hw727_8)).trans hw727_8), ((HB.out.cell (World.block_lt_of_cell? w _ hw727_9)).trans hw727_9)⟩ (fun hHeld => ?_)
       clear hK K
       refine norm_ (a' := ?_) ?_ ?_
       rotate_left
       ·show Act.put _ (some 38) _ = _
        simp only [Act.put, List.setIfInBounds_toArray, List.set_cons_zero, List.set_cons_succ, i64_w, i32_w]
        rfl
       refine pureZ_ (i := 21) (some 39) #[true, true, true, true, true, true, true, true, true, true, true, true, true, true, true, true, true, true, true, true, true, true, false] (any_of HT_.out (by kernel_rfl)) ?_
       refine pureZ_ (i := 22) (some 40) #[true, true, true, true, true, true, true, true, true, true, true, true, true, true, true, true, true, true, true, true, true, true, true] (any_of HT_.out (by kernel_rfl)) ?_
       refine done_ (done_of HT_.out (by kernel_rfl)) ?_
       have p729 : 0 ≤ (x7_1 : Int) := od_
       have q729 : x7_1 < (l0.length : Int) := od_
       obtain ⟨ad729, e729, hx729_0, hx729_1, hx729_2, hx729_3, hx729_4, hx729_5, hx729_6, hx729_7, hx729_8, hx729_9⟩ := at_T46 HR0.out x7_1 p729 q729
       obtain rfl : ad720 = ad729 := (by injection e729)
       replace hx729_0 := cb_ HB hx729_0
       replace hx729_1 := cb_ HB hx729_1
       replace hx729_2 := cb_ HB hx729_2
       replace hx729_3 := cb_ HB hx729_3
       replace hx729_4 := cb_ HB hx729_4
       replace hx729_5 := cb_ HB hx729_5
       replace hx729_6 := cb_ HB hx729_6
       replace hx729_7 := cb_ HB hx729_7
       replace hx729_8 := cb_ HB hx729_8
       replace hx729_9 := cb_ HB hx729_9
       replace p729 := eq_true p729
       replace q729 := eq_true q729
       try go_wp2_with (first | ((with_reducible refine gate_builtin (b := .append) (xs := #[.tmp 41, .tmp 46]) rfl ?_); at_builtin; refine Kd.R_append k46 (w0 := w) w.heap.size rfl (.tmp 41) (.tmp 46) 24 46 (.agg #[(.int .i64 0), (.int .i64 0), (.int .i64 0), (.int .i64 0), (.int .i64 0), (.int .i64 0), (.int .i64 0), (.int .i64 0), (.int .i64 0), (.int .i64 0)]) 80 rfl Try.underlying24 info46 rfl (by decide) (by omega) u5 x5_1 (⟨(rd_T46 l0 x7_1).f0, (⟨(rd_T46 l0 x7_1).f1.f0, (rd_T46 l0 x7_1).f1.f1⟩ : S27), (rd_T46 l0 x7_1).f2, (⟨(rd_T46 l0 x7_1).f3.f0, (rd_T46 l0 x7_1).f3.f1⟩ : S27), (⟨(rd_T46 l0 x7_1).f4.f0, (rd_T46 l0 x7_1).f4.f1⟩ : S27), (rd_T46 l0 x7_1).f5, (rd_T46 l0 x7_1).f6⟩ : S46) [.int .i64 ((rd_T46 l0 x7_1).f0), .int .i64 ((rd_T46 l0 x7_1).f1.f0), .int .i64 ((rd_T46 l0 x7_1).f1.f1), .int .i64 ((rd_T46 l0 x7_1).f2), .int .i64 ((rd_T46 l0 x7_1).f3.f0), .int .i64 ((rd_T46 l0 x7_1).f3.f1), .int .i64 ((rd_T46 l0 x7_1).f4.f0), .int .i64 ((rd_T46 l0 x7_1).f4.f1), .int .i64 ((rd_T46 l0 x7_1).f5), .int .i64 ((rd_T46 l0 x7_1).f6)] (fun _ => True) (fun _ => False) rfl rfl ?aP (fun _ hk => hk.elim) ?aF ?aO ?aB ?aS ?aL ?_; (case aP => exact k46_mkM _ _ _ (⟨(rd_T46 l0 x7_1).f0, (⟨(rd_T46 l0 x7_1).f1.f0, (rd_T46 l0 x7_1).f1.f1⟩ : S27), (rd_T46 l0 x7_1).f2, (⟨(rd_T46 l0 x7_1).f3.f0, (rd_T46 l0 x7_1).f3.f1⟩ : S27), (⟨(rd_T46 l0 x7_1).f4.f0, (rd_T46 l0 x7_1).f4.f1⟩ : S27), (rd_T46 l0 x7_1).f5, (rd_T46 l0 x7_1).f6⟩ : S46)); (case aB => exact bl_); (case aF => exact (fun _ _ => trivial)); (case aO => exact (by (with_reducible repeat (first | apply Kd.R_alloc | apply Kd.R_drewN | apply Kd.R_drew)); exact HO_5.out)); (case aS => exact bls_); (case aL => have := LMc20.out; omega); intro v731 w25 ho hb hg hat; rw [← Ny730.out] at ho; replace HO_6 := Aside0.mk (Kd.R_over' (by (with_reducible repeat (first | apply Kd.R_alloc | apply Kd.R_drewN | apply Kd.R_drew)); exact HO_6.out) (Kd.R_typed (by (with_reducible repeat (first | apply Kd.R_alloc | apply Kd.R_drewN | apply Kd.R_drew)); exact HO_5.out)) (by decide) hg); replace BK713 := Aside0.mk (blk_grown (g := gb713) (o := .cells #[.int .i64 a1_0, .int .i64 a1_1] 27 (0, 0)) (bk_ BK713) hg (Kd.R_ne HO_5.out BK713.out (by decide))); replace HB := Aside0.mk (hb); have HO732 := Aside0.mk (ho); clear HO_5; clear ho hb hg hat))
       go_roundg k1
       case measure => have := HK1.out; omega
       case rel => exact ⟨(y730), (wrap64 (x7_1 + 1)), rf_, H', ⟨by have := HK1.out; omega⟩, ⟨by (with_reducible repeat (first | apply Kd.R_alloc | apply Kd.R_drewN | apply Kd.R_drew)); exact HO732.out⟩, ⟨by (with_reducible repeat (first | apply Kd.R_alloc | apply Kd.R_drewN | apply Kd.R_drew)); exact HO_6.out⟩, ⟨bk_ BK713⟩, ⟨bl_⟩⟩
      ·replace c19 := Bool.eq_false_iff.mpr c19
       subst c19
       replace H := ite_f_ H
       have H' := Aside0.mk H
       clear H
       try go_wp2
       replace HO_5 := Aside0.mk (Kd.R_drew HO_5.out)
       replace HO_6 := Aside0.mk (Kd.R_drew HO_6.out)
       replace BK713 := Aside0.mk (blk_drew BK713.out)
       replace HB := Aside0.mk (below_drew1 HB.out)
       have p720 : 0 ≤ (x7_1 : Int) := od_
       have q720 : x7_1 < (l0.length : Int) := od_
       obtain ⟨ad720, e720, hx720_0, hx720_1, hx720_2, hx720_3, hx720_4, hx720_5, hx720_6, hx720_7, hx720_8, hx720_9⟩ := at_T46 HR0.out x7_1 p720 q720
       have hw720_9 := hx720_9
       have hw720_8 := hx720_8
       have hw720_7 := hx720_7
       have hw720_6 := hx720_6
       have hw720_5 := hx720_5
       have hw720_4 := hx720_4
       have hw720_3 := hx720_3
       have hw720_2 := hx720_2
       have hw720_1 := hx720_1
       have hw720_0 := hx720_0
       cases e720
       replace hx720_0 := cb_ HB hx720_0
       replace hx720_1 := cb_ HB hx720_1
       replace hx720_2 := cb_ HB hx720_2
       replace hx720_3 := cb_ HB hx720_3
       replace hx720_4 := cb_ HB hx720_4
       replace hx720_5 := cb_ HB hx720_5
       replace hx720_6 := cb_ HB hx720_6
       replace hx720_7 := cb_ HB hx720_7
       replace hx720_8 := cb_ HB hx720_8
       replace hx720_9 := cb_ HB hx720_9
       replace p720 := eq_true p720
       replace q720 := eq_true q720
       have p722 : 0 ≤ (x7_1 : Int) := od_
       have q722 : x7_1 < (l0.length : Int) := od_
       obtain ⟨ad722, e722, hx722_0, hx722_1, hx722_2, hx722_3, hx722_4, hx722_5, hx722_6, hx722_7, hx722_8, hx722_9⟩ := at_T46 HR0.out x7_1 p722 q722
       have hw722_9 := hx722_9
       have hw722_8 := hx722_8
       have hw722_7 := hx722_7
       have hw722_6 := hx722_6
       have hw722_5 := hx722_5
       have hw722_4 := hx722_4
       have hw722_3 := hx722_3
       have hw722_2 := hx722_2
       have hw722_1 := hx722_1
       have hw722_0 := hx722_0
       obtain rfl : ad720 = ad722 := (by injection e722)
       replace hx722_0 := cb_ HB hx722_0
       replace hx722_1 := cb_ HB hx722_1
       replace hx722_2 := cb_ HB hx722_2
       replace hx722_3 := cb_ HB hx722_3
       replace hx722_4 := cb_ HB hx722_4
       replace hx722_5 := cb_ HB hx722_5
       replace hx722_6 := cb_ HB hx722_6
       replace hx722_7 := cb_ HB hx722_7
       replace hx722_8 := cb_ HB hx722_8
       replace hx722_9 := cb_ HB hx722_9
       replace p722 := eq_true p722
       replace q722 := eq_true q722
       have p727 : 0 ≤ (x7_1 : Int) := od_
       have q727 : x7_1 < (l0.length : Int) := od_
       obtain ⟨ad727, e727, hx727_0, hx727_1, hx727_2, hx727_3, hx727_4, hx727_5, hx727_6, hx727_7, hx727_8, hx727_9⟩ := at_T46 HR0.out x7_1 p727 q727
       have hw727_9 := hx727_9
       have hw727_8 := hx727_8
       have hw727_7 := hx727_7
       have hw727_6 := hx727_6
       have hw727_5 := hx727_5
       have hw727_4 := hx727_4
       have hw727_3 := hx727_3
       have hw727_2 := hx727_2
       have hw727_1 := hx727_1
       have hw727_0 := hx727_0
       obtain rfl : ad720 = ad727 := (by injection e727)
       replace hx727_0 := cb_ HB hx727_0
       replace hx727_1 := cb_ HB hx727_1
       replace hx727_2 := cb_ HB hx727_2
       replace hx727_3 := cb_ HB hx727_3
       replace hx727_4 := cb_ HB hx727_4
       replace hx727_5 := cb_ HB hx727_5
       replace hx727_6 := cb_ HB hx727_6
       replace hx727_7 := cb_ HB hx727_7
       replace hx727_8 := cb_ HB hx727_8
       replace hx727_9 := cb_ HB hx727_9
       replace p727 := eq_true p727
       replace q727 := eq_true q727
       refine start_ (n := 23) (S := fun w' => w'.cell? ⟨gb713, 0, none⟩ = some (.int .i64 a1_0) ∧ w'.cell? ⟨gb713, 1, none⟩ = some (.int .i64 a1_1) ∧ w'.cell? (ad720.add ((x7_1).toNat * 10)) = some (.int .i64 ((rd_T46 l0 x7_1).f0)) ∧ w'.cell? ⟨(ad720.add ((x7_1).toNat * 10)).block, (ad720.add ((x7_1).toNat * 10)).off + 1, none⟩ = some (.int .i64 ((rd_T46 l0 x7_1).f1.f0)) ∧ w'.cell? ⟨(ad720.add ((x7_1).toNat * 10)).block, (ad720.add ((x7_1).toNat * 10)).off + 2, none⟩ = some (.int .i64 ((rd_T46 l0 x7_1).f1.f1)) ∧ w'.cell? ⟨(ad720.add ((x7_1).toNat * 10)).block, (ad720.add ((x7_1).toNat * 10)).off + 3, none⟩ = some (.int .i64 ((rd_T46 l0 x7_1).f2)) ∧ w'.cell? ⟨(ad720.add ((x7_1).toNat * 10)).block, (ad720.add ((x7_1).toNat * 10)).off + 4, none⟩ = some (.int .i64 ((rd_T46 l0 x7_1).f3.f0)) ∧ w'.cell? ⟨(ad720.add ((x7_1).toNat * 10)).block, (ad720.add ((x7_1).toNat * 10)).off + 5, none⟩ = some (.int .i64 ((rd_T46 l0 x7_1).f3.f1)) ∧ w'.cell? ⟨(ad720.add ((x7_1).toNat * 10)).block, (ad720.add ((x7_1).toNat * 10)).off + 6, none⟩ = some (.int .i64 ((rd_T46 l0 x7_1).f4.f0)) ∧ w'.cell? ⟨(ad720.add ((x7_1).toNat * 10)).block, (ad720.add ((x7_1).toNat * 10)).off + 7, none⟩ = some (.int .i64 ((rd_T46 l0 x7_1).f4.f1)) ∧ w'.cell? ⟨(ad720.add ((x7_1).toNat * 10)).block, (ad720.add ((x7_1).toNat * 10)).off + 8, none⟩ = some (.int .i64 ((rd_T46 l0 x7_1).f5)) ∧ w'.cell? ⟨(ad720.add ((x7_1).toNat * 10)).block, (ad720.add ((x7_1).toNat * 10)).off + 9, none⟩ = some (.int .i64 ((rd_T46 l0 x7_1).f6)) ∧ w'.cell? (ad720.add ((x7_1).toNat * 10)) = some (.int .i64 ((rd_T46 l0 x7_1).f0)) ∧ w'.cell? ⟨(ad720.add ((x7_1).toNat * 10)).block, (ad720.add ((x7_1).toNat * 10)).off + 1, none⟩ = some (.int .i64 ((rd_T46 l0 x7_1).f1.f0)) ∧ w'.cell? ⟨(ad720.add ((x7_1).toNat * 10)).block, (ad720.add ((x7_1).toNat * 10)).off + 2, none⟩ = some (.int .i64 ((rd_T46 l0 x7_1).f1.f1)) ∧ w'.cell? ⟨(ad720.add ((x7_1).toNat * 10)).block, (ad720.add ((x7_1).toNat * 10)).off + 3, none⟩ = some (.int .i64 ((rd_T46 l0 x7_1).f2)) ∧ w'.cell? ⟨(ad720.add ((x7_1).toNat * 10)).block, (ad720.add ((x7_1).toNat * 10)).off + 4, none⟩ = some (.int .i64 ((rd_T46 l0 x7_1).f3.f0)) ∧ w'.cell? ⟨(ad720.add ((x7_1).toNat * 10)).block, (ad720.add ((x7_1).toNat * 10)).off + 5, none⟩ = some (.int .i64 ((rd_T46 l0 x7_1).f3.f1)) ∧ w'.cell? ⟨(ad720.add ((x7_1).toNat * 10)).block, (ad720.add ((x7_1).toNat * 10)).off + 6, none⟩ = some (.int .i64 ((rd_T46 l0 x7_1).f4.f0)) ∧ w'.cell? ⟨(ad720.add ((x7_1).toNat * 10)).block, (ad720.add ((x7_1).toNat * 10)).off + 7, none⟩ = some (.int .i64 ((rd_T46 l0 x7_1).f4.f1)) ∧ w'.cell? ⟨(ad720.add ((x7_1).toNat * 10)).block, (ad720.add ((x7_1).toNat * 10)).off + 8, none⟩ = some (.int .i64 ((rd_T46 l0 x7_1).f5)) ∧ w'.cell? ⟨(ad720.add ((x7_1).toNat * 10)).block, (ad720.add ((x7_1).toNat * 10)).off + 9, none⟩ = some (.int .i64 ((rd_T46 l0 x7_1).f6)) ∧ w'.cell? (ad720.add ((x7_1).toNat * 10)) = some (.int .i64 ((rd_T46 l0 x7_1).f0)) ∧ w'.cell? ⟨(ad720.add ((x7_1).toNat * 10)).block, (ad720.add ((x7_1).toNat * 10)).off + 1, none⟩ = some (.int .i64 ((rd_T46 l0 x7_1).f1.f0)) ∧ w'.cell? ⟨(ad720.add ((x7_1).toNat * 10)).block, (ad720.add ((x7_1).toNat * 10)).off + 2, none⟩ = some (.int .i64 ((rd_T46 l0 x7_1).f1.f1)) ∧ w'.cell? ⟨(ad720.add ((x7_1).toNat * 10)).block, (ad720.add ((x7_1).toNat * 10)).off + 3, none⟩ = some (.int .i64 ((rd_T46 l0 x7_1).f2)) ∧ w'.cell? ⟨(ad720.add ((x7_1).toNat * 10)).block, (ad720.add ((x7_1).toNat * 10)).off + 4, none⟩ = some (.int .i64 ((rd_T46 l0 x7_1).f3.f0)) ∧ w'.cell? ⟨(ad720.add ((x7_1).toNat * 10)).block, (ad720.add ((x7_1).toNat * 10)).off + 5, none⟩ = some (.int .i64 ((rd_T46 l0 x7_1).f3.f1)) ∧ w'.cell? ⟨(ad720.add ((x7_1).toNat * 10)).block, (ad720.add ((x7_1).toNat * 10)).off + 6, none⟩ = some (.int .i64 ((rd_T46 l0 x7_1).f4.f0)) ∧ w'.cell? ⟨(ad720.add ((x7_1).toNat * 10)).block, (ad720.add ((x7_1).toNat * 10)).off + 7, none⟩ = some (.int .i64 ((rd_T46 l0 x7_1).f4.f1)) ∧ w'.cell? ⟨(ad720.add ((x7_1).toNat * 10)).block, (ad720.add ((x7_1).toNat * 10)).off + 8, none⟩ = some (.int .i64 ((rd_T46 l0 x7_1).f5)) ∧ w'.cell? ⟨(ad720.add ((x7_1).toNat * 10)).block, (ad720.add ((x7_1).toNat * 10)).off + 9, none⟩ = some (.int .i64 ((rd_T46 l0 x7_1).f6))) (ds := []) #[false, false, false, false, false, false, false, false, false, false, false, false, false, false, false, false, false, false, false, false, false, false, false] (by kernel_rfl) rfl rfl ⟨(blk_cell BK713.out 0).trans rfl, (blk_cell BK713.out 1).trans rfl, ((HB.out.cell (World.block_lt_of_cell? w _ hw720_0)).trans hw720_0), ((HB.out.cell (World.block_lt_of_cell? w _ hw720_1)).trans hw720_1), ((HB.out.cell (World.block_lt_of_cell? w _ hw720_2)).trans hw720_2), ((HB.out.cell (World.block_lt_of_cell? w _ hw720_3)).trans hw720_3), ((HB.out.cell (World.block_lt_of_cell? w _ hw720_4)).trans hw720_4), ((HB.out.cell (World.block_lt_of_cell? w _ hw720_5)).trans hw720_5), ((HB.out.cell (World.block_lt_of_cell? w _ hw720_6)).trans hw720_6), ((HB.out.cell (World.block_lt_of_cell? w _ hw720_7)).trans hw720_7), ((HB.out.cell (World.block_lt_of_cell? w _ hw720_8)).trans hw720_8), ((HB.out.cell (World.block_lt_of_cell? w _ hw720_9)).trans hw720_9), ((HB.out.cell (World.block_lt_of_cell? w _ hw722_0)).trans hw722_0), ((HB.out.cell (World.block_lt_of_cell? w _ hw722_1)).trans hw722_1), ((HB.out.cell (World.block_lt_of_cell? w _ hw722_2)).trans hw722_2), ((HB.out.cell (World.block_lt_of_cell? w _ hw722_3)).trans hw722_3), ((HB.out.cell (World.block_lt_of_cell? w _ hw722_4)).trans hw722_4), ((HB.out.cell (World.block_lt_of_cell? w _ hw722_5)).trans hw722_5), ((HB.out.cell (World.block_lt_of_cell? w _ hw722_6)).trans hw722_6), ((HB.out.cell (World.block_lt_of_cell? w _ hw722_7)).trans hw722_7), ((HB.out.cell (World.block_lt_of_cell? w _ hw722_8)).trans hw722_8), ((HB.out.cell (World.block_lt_of_cell? w _ hw722_9)).trans hw722_9), ((HB.out.cell (World.block_lt_of_cell? w _ hw727_0)).trans hw727_0), ((HB.out.cell (World.block_lt_of_cell? w _ hw727_1)).trans hw727_1), ((HB.out.cell (World.block_lt_of_cell? w _ hw727_2)).trans hw727_2), ((HB.out.cell (World.block_lt_of_cell? w _ hw727_3)).trans hw727_3), ((HB.out.cell (World.block_lt_of_cell? w _ hw727_4)).trans hw727_4), ((HB.out.cell (World.block_lt_of_cell? w _ hw727_5)).trans hw727_5), ((HB.out.cell (World.block_lt_of_cell? w _ hw727_6)).trans hw727_6), ((HB.out.cell (World.block_lt_of_cell? w _ hw727_7)).trans hw727_7), ((HB.out.cell (World.block_lt_of_cell? w _ hw727_8)).trans hw727_8), ((HB.out.cell (World.block_lt_of_cell? w _ hw727_9)).trans hw727_9)⟩ (fun hHeld => ?_); refine with_tabW spec_NeededFor.tab6 spec_NeededFor.bits6 (fun HT_ HW_ => ?_)
       generalize wr.drew = w26 at HO_5 HO_6 BK713 HB hx720_0 hx720_1 hx720_2 hx720_3 hx720_4 hx720_5 hx720_6 hx720_7 hx720_8 hx720_9 hx722_0 hx722_1 hx722_2 hx722_3 hx722_4 hx722_5 hx722_6 hx722_7 hx722_8 hx722_9 hx727_0 hx727_1 hx727_2 hx727_3 hx727_4 hx727_5 hx727_6 hx727_7 hx727_8 hx727_9 hHeld ⊢
       refine pureZ_ (i := 0) (some 18) #[true, false, false, false, false, false, false, false, false, false, false, false, false, false, false, false, false, false, false, false, false, false, false] (any_of HT_.out (by kernel_rfl)) ?_
       refine pureZ_ (i := 1) (some 19) #[true, true, false, false, false, false, false, false, false, false, false, false, false, false, false, false, false, false, false, false, false, false, false] (any_of HT_.out (by kernel_rfl)) ?_
       refine pureZ_ (i := 2) (some 20) #[true, true, true, false, false, false, false, false, false, false, false, false, false, false, false, false, false, false, false, false, false, false, false] (any_of HT_.out (by kernel_rfl)) ?_
       refine takeZ_ (i := 3) (some 21) #[true, true, true, true, false, false, false, false, false, false, false, false, false, false, false, false, false, false, false, false, false, false, false] (take_ofW HT_.out HW_.out (by kernel_rfl)) hHeld ?_
       refine one_ (i := 4) (N := some 22) #[true, true, true, true, true, false, false, false, false, false, false, false, false, false, false, false, false, false, false, false, false, false, false] rfl rfl (one_of HT_.out (by kernel_rfl)) (by decide) (fun K hK => ?_)
       refine goes_ Try.func115 (by kernel_rfl) rfl #[.agg #[.int .i64 ((rd_T46 l0 x7_1).f0), .int .i64 ((rd_T46 l0 x7_1).f1.f0), .int .i64 ((rd_T46 l0 x7_1).f1.f1), .int .i64 ((rd_T46 l0 x7_1).f2), .int .i64 ((rd_T46 l0 x7_1).f3.f0), .int .i64 ((rd_T46 l0 x7_1).f3.f1), .int .i64 ((rd_T46 l0 x7_1).f4.f0), .int .i64 ((rd_T46 l0 x7_1).f4.f1), .int .i64 ((rd_T46 l0 x7_1).f5), .int .i64 ((rd_T46 l0 x7_1).f6)]] (by rfl) rfl rfl (by (try simp only [List.map_toArray, List.map_cons, List.map_nil]); first | done | rfl | (simp only [List.length_drop, List.length_take]; rfl)) ?_
       with_reducible refine (spec_CredOk.calls k1 ((rd_T46 l0 x7_1).f0) ((rd_T46 l0 x7_1).f1.f0) ((rd_T46 l0 x7_1).f1.f1) ((rd_T46 l0 x7_1).f2) ((rd_T46 l0 x7_1).f3.f0) ((rd_T46 l0 x7_1).f3.f1) ((rd_T46 l0 x7_1).f4.f0) ((rd_T46 l0 x7_1).f4.f1) ((rd_T46 l0 x7_1).f5) ((rd_T46 l0 x7_1).f6) true _ A11.out).mono ?_
       rintro e w27 ⟨rfl, hb⟩
       refine ⟨_, rfl, ?_⟩
       replace HO_5 := hob_ HO_5 hb
       replace HO_6 := hob_ HO_6 hb
       replace BK713 := bkb_ BK713 hb
       replace HB := hbs_ hb
       (try clear hb)
       (try clear hb2)
       (try clear hk)
       (try clear hi)
       obtain ⟨Ao28, co28, eo28⟩ := Kd.R_slice HO_6.out
       (first | subst eo28 | (injection eo28 with f1_ f2_ f3_; have f4_ := f1_.symm; have f5_ := f3_.symm; clear f1_ f2_ f3_; subst f4_; subst f5_))
       refine hK.out _ _ ⟨(blk_cell BK713.out 0).trans rfl, (blk_cell BK713.out 1).trans rfl, ((HB.out.cell (World.block_lt_of_cell? w _ hw720_0)).trans hw720_0), ((HB.out.cell (World.block_lt_of_cell? w _ hw720_1)).trans hw720_1), ((HB.out.cell (World.block_lt_of_cell? w _ hw720_2)).trans hw720_2), ((HB.out.cell (World.block_lt_of_cell? w _ hw720_3)).trans hw720_3), ((HB.out.cell (World.block_lt_of_cell? w _ hw720_4)).trans hw720_4), ((HB.out.cell (World.block_lt_of_cell? w _ hw720_5)).trans hw720_5), ((HB.out.cell (World.block_lt_of_cell? w _ hw720_6)).trans hw720_6), ((HB.out.cell (World.block_lt_of_cell? w _ hw720_7)).trans hw720_7), ((HB.out.cell (World.block_lt_of_cell? w _ hw720_8)).trans hw720_8), ((HB.out.cell (World.block_lt_of_cell? w _ hw720_9)).trans hw720_9), ((HB.out.cell (World.block_lt_of_cell? w _ hw722_0)).trans hw722_0), ((HB.out.cell (World.block_lt_of_cell? w _ hw722_1)).trans hw722_1), ((HB.out.cell (World.block_lt_of_cell? w _ hw722_2)).trans hw722_2), ((HB.out.cell (World.block_lt_of_cell? w _ hw722_3)).trans hw722_3), ((HB.out.cell (World.block_lt_of_cell? w _ hw722_4)).trans hw722_4), ((HB.out.cell (World.block_lt_of_cell? w _ hw722_5)).trans hw722_5), ((HB.out.cell (World.block_lt_of_cell? w _ hw722_6)).trans hw722_6), ((HB.out.cell (World.block_lt_of_cell? w _ hw722_7)).trans hw722_7), ((HB.out.cell (World.block_lt_of_cell? w _ hw722_8)).trans hw722_8), ((HB.out.cell (World.block_lt_of_cell? w _ hw722_9)).trans hw722_9), ((HB.out.cell (World.block_lt_of_cell? w _ hw727_0)).trans hw727_0), ((HB.out.cell (World.block_lt_of_cell? w _ hw727_1)).trans hw727_1), ((HB.out.cell (World.block_lt_of_cell? w _ hw727_2)).trans hw727_2), ((HB.out.cell (World.block_lt_of_cell? w _ hw727_3)).trans hw727_3), ((HB.out.cell (World.block_lt_of_cell? w _ hw727_4)).trans hw727_4), ((HB.out.cell (World.block_lt_of_cell? w _ hw727_5)).trans hw727_5), ((HB.out.cell (World.block_lt_of_cell? w _ hw727_6)).trans hw727_6), ((HB.out.cell (World.block_lt_of_cell? w _ hw727_7)).trans hw727_7), ((HB.out.cell (World.block_lt_of_cell? w _ hw727_8)).trans hw727_8), ((HB.out.cell (World.block_lt_of_cell? w _ hw727_9)).trans hw727_9)⟩ (fun hHeld => ?_)
       clear hK K
       refine norm_ (a' := ?_) ?_ ?_
       rotate_left
       ·show Act.put _ (some 22) _ = _
        simp only [Act.put, List.setIfInBounds_toArray, List.set_cons_zero, List.set_cons_succ, i64_w, i32_w]
        rfl
       refine pureZ_ (i := 5) (some 23) #[true, true, true, true, true, true, false, false, false, false, false, false, false, false, false, false, false, false, false, false, false, false, false] (any_of HT_.out (by kernel_rfl)) ?_
       refine pureZ_ (i := 6) (some 24) #[true, true, true, true, true, true, true, false, false, false, false, false, false, false, false, false, false, false, false, false, false, false, false] (any_of HT_.out (by kernel_rfl)) ?_
       refine pureZ_ (i := 7) (some 25) #[true, true, true, true, true, true, true, true, false, false, false, false, false, false, false, false, false, false, false, false, false, false, false] (any_of HT_.out (by kernel_rfl)) ?_
       refine pureZ_ (i := 8) (some 26) #[true, true, true, true, true, true, true, true, true, false, false, false, false, false, false, false, false, false, false, false, false, false, false] (any_of HT_.out (by kernel_rfl)) ?_
       refine pureZ_ (i := 9) (some 27) #[true, true, true, true, true, true, true, true, true, true, false, false, false, false, false, false, false, false, false, false, false, false, false] (any_of HT_.out (by kernel_rfl)) ?_
       refine takeZ_ (i := 10) (some 28) #[true, true, true, true, true, true, true, true, true, true, true, false, false, false, false, false, false, false, false, false, false, false, false] (take_ofW HT_.out HW_.out (by kernel_rfl)) hHeld ?_
       refine takeZ_ (i := 11) (some 29) #[true, true, true, true, true, true, true, true, true, true, true, true, false, false, false, false, false, false, false, false, false, false, false] (take_ofW HT_.out HW_.out (by kernel_rfl)) hHeld ?_
       refine pureZ_ (i := 12) (some 30) #[true, true, true, true, true, true, true, true, true, true, true, true, true, false, false, false, false, false, false, false, false, false, false] (any_of HT_.out (by kernel_rfl)) ?_
       refine pureZ_ (i := 13) (some 31) #[true, true, true, true, true, true, true, true, true, true, true, true, true, true, false, false, false, false, false, false, false, false, false] (any_of HT_.out (by kernel_rfl)) ?_
       refine pureZ_ (i := 14) (some 32) #[true, true, true, true, true, true, true, true, true, true, true, true, true, true, true, false, false, false, false, false, false, false, false] (any_of HT_.out (by kernel_rfl)) ?_
       refine pureZ_ (i := 15) (some 33) #[true, true, true, true, true, true, true, true, true, true, true, true, true, true, true, true, false, false, false, false, false, false, false] (any_of HT_.out (by kernel_rfl)) ?_
       refine pureZ_ (i := 16) (some 34) #[true, true, true, true, true, true, true, true, true, true, true, true, true, true, true, true, true, false, false, false, false, false, false] (any_of HT_.out (by kernel_rfl)) ?_
       refine pureZ_ (i := 17) (some 35) #[true, true, true, true, true, true, true, true, true, true, true, true, true, true, true, true, true, true, false, false, false, false, false] (any_of HT_.out (by kernel_rfl)) ?_
       refine pureZ_ (i := 18) (some 36) #[true, true, true, true, true, true, true, true, true, true, true, true, true, true, true, true, true, true, true, false, false, false, false] (any_of HT_.out (by kernel_rfl)) ?_
       refine takeZ_ (i := 19) (some 37) #[true, true, true, true, true, true, true, true, true, true, true, true, true, true, true, true, true, true, true, true, false, false, false] (take_ofW HT_.out HW_.out (by kernel_rfl)) hHeld ?_
       refine one_ (i := 20) (N := some 38) #[true, true, true, true, true, true, true, true, true, true, true, true, true, true, true, true, true, true, true, true, true, false, false] rfl rfl (one_of HT_.out (by kernel_rfl)) (by decide) (fun K hK => ?_)
       refine goes_ Try.func116 (by kernel_rfl) rfl #[.slice Ao28 t717.length co28, .agg #[.int .i64 ((rd_T46 l0 x7_1).f1.f0), .int .i64 ((rd_T46 l0 x7_1).f1.f1)]] (by rfl) rfl rfl (by (try simp only [List.map_toArray, List.map_cons, List.map_nil]); first | done | rfl | (simp only [List.length_drop, List.length_take]; rfl)) ?_
       with_reducible refine (spec_l13Done.calls k1 _ _ t717 ((rd_T46 l0 x7_1).f1.f0) ((rd_T46 l0 x7_1).f1.f1) false _ ?side1 ?side2 A18.out).mono ?_
       (case side1 => repeat (first | exact (Kd.R_reads' HO_6.out).2.2 | (with_reducible refine Kd.C_alloc ?_ _) | (with_reducible refine Kd.C_drewN ?_ _) | (with_reducible refine Kd.C_drew ?_)))
       (case side2 => exact (Kd.R_reads' HO_6.out).2.1)
       rintro e w29 ⟨rfl, hb⟩
       refine ⟨_, rfl, ?_⟩
       replace HO_5 := hob_ HO_5 hb
       replace HO_6 := hob_ HO_6 hb
       replace BK713 := bkb_ BK713 hb
       replace HB := hbs_ hb
       (try clear hb)
       (try clear hb2)
       (try clear hk)
       (try clear hi)
       refine hK.out _ _ ⟨(blk_cell BK713.out 0).trans rfl, (blk_cell BK713.out 1).trans rfl, ((HB.out.cell (World.block_lt_of_cell? w _ hw720_0)).trans hw720_0), ((HB.out.cell (World.block_lt_of_cell? w _ hw720_1)).trans hw720_1), ((HB.out.cell (World.block_lt_of_cell? w _ hw720_2)).trans hw720_2), ((HB.out.cell (World.block_lt_of_cell? w _ hw720_3)).trans hw720_3), ((HB.out.cell (World.block_lt_of_cell? w _ hw720_4)).trans hw720_4), ((HB.out.cell (World.block_lt_of_cell? w _ hw720_5)).trans hw720_5), ((HB.out.cell (World.block_lt_of_cell? w _ hw720_6)).trans hw720_6), ((HB.out.cell (World.block_lt_of_cell? w _ hw720_7)).trans hw720_7), ((HB.out.cell (World.block_lt_of_cell? w _ hw720_8)).trans hw720_8), ((HB.out.cell (World.block_lt_of_cell? w _ hw720_9)).trans hw720_9), ((HB.out.cell (World.block_lt_of_cell? w _ hw722_0)).trans hw722_0), ((HB.out.cell (World.block_lt_of_cell? w _ hw722_1)).trans hw722_1), ((HB.out.cell (World.block_lt_of_cell? w _ hw722_2)).trans hw722_2), ((HB.out.cell (World.block_lt_of_cell? w _ hw722_3)).trans hw722_3), ((HB.out.cell (World.block_lt_of_cell? w _ hw722_4)).trans hw722_4), ((HB.out.cell (World.block_lt_of_cell? w _ hw722_5)).trans hw722_5), ((HB.out.cell (World.block_lt_of_cell? w _ hw722_6)).trans hw722_6), ((HB.out.cell (World.block_lt_of_cell? w _ hw722_7)).trans hw722_7), ((HB.out.cell (World.block_lt_of_cell? w _ hw722_8)).trans hw722_8), ((HB.out.cell (World.block_lt_of_cell? w _ hw722_9)).trans hw722_9), ((HB.out.cell (World.block_lt_of_cell? w _ hw727_0)).trans hw727_0), ((HB.out.cell (World.block_lt_of_cell? w _ hw727_1)).trans hw727_1), ((HB.out.cell (World.block_lt_of_cell? w _ hw727_2)).trans hw727_2), ((HB.out.cell (World.block_lt_of_cell? w _ hw727_3)).trans hw727_3), ((HB.out.cell (World.block_lt_of_cell? w _ hw727_4)).trans hw727_4), ((HB.out.cell (World.block_lt_of_cell? w _ hw727_5)).trans hw727_5), ((HB.out.cell (World.block_lt_of_cell? w _ hw727_6)).trans hw727_6), ((HB.out.cell (World.block_lt_of_cell? w _ hw727_7)).trans hw727_7), ((HB.out.cell (World.block_lt_of_cell? w _ hw727_8)).trans hw727_8), ((HB.out.cell (World.block_lt_of_cell? w _ hw727_9)).trans hw727_9)⟩ (fun hHeld => ?_)
       clear hK K
       refine norm_ (a' := ?_) ?_ ?_
       rotate_left
       ·show Act.put _ (some 38) _ = _
        simp only [Act.put, List.setIfInBounds_toArray, List.set_cons_zero, List.set_cons_succ, i64_w, i32_w]
        rfl
       refine pureZ_ (i := 21) (some 39) #[true, true, true, true, true, true, true, true, true, true, true, true, true, true, true, true, true, true, true, true, true, true, false] (any_of HT_.out (by kernel_rfl)) ?_
       refine pureZ_ (i := 22) (some 40) #[true, true, true, true, true, true, true, true, true, true, true, true, true, true, true, true, true, true, true, true, true, true, true] (any_of HT_.out (by kernel_rfl)) ?_
       refine done_ (done_of HT_.out (by kernel_rfl)) ?_
       try go_wp2
       go_roundg k1
       case measure => have := HK1.out; omega
       case rel => exact ⟨(x5_1), (wrap64 (x7_1 + 1)), rf_, H', ⟨by have := HK1.out; omega⟩, ⟨by (with_reducible repeat (first | apply Kd.R_alloc | apply Kd.R_drewN | apply Kd.R_drew)); exact HO_5.out⟩, ⟨by (with_reducible repeat (first | apply Kd.R_alloc | apply Kd.R_drewN | apply Kd.R_drew)); exact HO_6.out⟩, ⟨bk_ BK713⟩, ⟨bl_⟩⟩
    ·replace c12 := Bool.eq_false_iff.mpr c12
     subst c12
     replace H := ite_f_ H
     have H' := Aside0.mk H
     clear H
     try go_wp2
     replace HO_5 := Aside0.mk (Kd.R_drew HO_5.out)
     replace HO_6 := Aside0.mk (Kd.R_drew HO_6.out)
     replace BK713 := Aside0.mk (blk_drew BK713.out)
     replace HB := Aside0.mk (below_drew1 HB.out)
     have p720 : 0 ≤ (x7_1 : Int) := od_
     have q720 : x7_1 < (l0.length : Int) := od_
     obtain ⟨ad720, e720, hx720_0, hx720_1, hx720_2, hx720_3, hx720_4, hx720_5, hx720_6, hx720_7, hx720_8, hx720_9⟩ := at_T46 HR0.out x7_1 p720 q720
     have hw720_9 := hx720_9
     have hw720_8 := hx720_8
     have hw720_7 := hx720_7
     have hw720_6 := hx720_6
     have hw720_5 := hx720_5
     have hw720_4 := hx720_4
     have hw720_3 := hx720_3
     have hw720_2 := hx720_2
     have hw720_1 := hx720_1
     have hw720_0 := hx720_0
     cases e720
     replace hx720_0 := cb_ HB hx720_0
     replace hx720_1 := cb_ HB hx720_1
     replace hx720_2 := cb_ HB hx720_2
     replace hx720_3 := cb_ HB hx720_3
     replace hx720_4 := cb_ HB hx720_4
     replace hx720_5 := cb_ HB hx720_5
     replace hx720_6 := cb_ HB hx720_6
     replace hx720_7 := cb_ HB hx720_7
     replace hx720_8 := cb_ HB hx720_8
     replace hx720_9 := cb_ HB hx720_9
     replace p720 := eq_true p720
     replace q720 := eq_true q720
     refine start_ (n := 23) (S := fun w' => w'.cell? (ad720.add ((x7_1).toNat * 10)) = some (.int .i64 ((rd_T46 l0 x7_1).f0)) ∧ w'.cell? ⟨(ad720.add ((x7_1).toNat * 10)).block, (ad720.add ((x7_1).toNat * 10)).off + 1, none⟩ = some (.int .i64 ((rd_T46 l0 x7_1).f1.f0)) ∧ w'.cell? ⟨(ad720.add ((x7_1).toNat * 10)).block, (ad720.add ((x7_1).toNat * 10)).off + 2, none⟩ = some (.int .i64 ((rd_T46 l0 x7_1).f1.f1)) ∧ w'.cell? ⟨(ad720.add ((x7_1).toNat * 10)).block, (ad720.add ((x7_1).toNat * 10)).off + 3, none⟩ = some (.int .i64 ((rd_T46 l0 x7_1).f2)) ∧ w'.cell? ⟨(ad720.add ((x7_1).toNat * 10)).block, (ad720.add ((x7_1).toNat * 10)).off + 4, none⟩ = some (.int .i64 ((rd_T46 l0 x7_1).f3.f0)) ∧ w'.cell? ⟨(ad720.add ((x7_1).toNat * 10)).block, (ad720.add ((x7_1).toNat * 10)).off + 5, none⟩ = some (.int .i64 ((rd_T46 l0 x7_1).f3.f1)) ∧ w'.cell? ⟨(ad720.add ((x7_1).toNat * 10)).block, (ad720.add ((x7_1).toNat * 10)).off + 6, none⟩ = some (.int .i64 ((rd_T46 l0 x7_1).f4.f0)) ∧ w'.cell? ⟨(ad720.add ((x7_1).toNat * 10)).block, (ad720.add ((x7_1).toNat * 10)).off + 7, none⟩ = some (.int .i64 ((rd_T46 l0 x7_1).f4.f1)) ∧ w'.cell? ⟨(ad720.add ((x7_1).toNat * 10)).block, (ad720.add ((x7_1).toNat * 10)).off + 8, none⟩ = some (.int .i64 ((rd_T46 l0 x7_1).f5)) ∧ w'.cell? ⟨(ad720.add ((x7_1).toNat * 10)).block, (ad720.add ((x7_1).toNat * 10)).off + 9, none⟩ = some (.int .i64 ((rd_T46 l0 x7_1).f6))) (ds := []) #[false, false, false, false, false, false, false, false, false, false, false, false, false, false, false, false, false, false, false, false, false, false, false] (by kernel_rfl) rfl rfl ⟨((HB.out.cell (World.block_lt_of_cell? w _ hw720_0)).trans hw720_0), ((HB.out.cell (World.block_lt_of_cell? w _ hw720_1)).trans hw720_1), ((HB.out.cell (World.block_lt_of_cell? w _ hw720_2)).trans hw720_2), ((HB.out.cell (World.block_lt_of_cell? w _ hw720_3)).trans hw720_3), ((HB.out.cell (World.block_lt_of_cell? w _ hw720_4)).trans hw720_4), ((HB.out.cell (World.block_lt_of_cell? w _ hw720_5)).trans hw720_5), ((HB.out.cell (World.block_lt_of_cell? w _ hw720_6)).trans hw720_6), ((HB.out.cell (World.block_lt_of_cell? w _ hw720_7)).trans hw720_7), ((HB.out.cell (World.block_lt_of_cell? w _ hw720_8)).trans hw720_8), ((HB.out.cell (World.block_lt_of_cell? w _ hw720_9)).trans hw720_9)⟩ (fun hHeld => ?_); refine with_tabW spec_NeededFor.tab6 spec_NeededFor.bits6 (fun HT_ HW_ => ?_)
     generalize wr.drew = w30 at HO_5 HO_6 BK713 HB hx720_0 hx720_1 hx720_2 hx720_3 hx720_4 hx720_5 hx720_6 hx720_7 hx720_8 hx720_9 hHeld ⊢
     refine pureZ_ (i := 0) (some 18) #[true, false, false, false, false, false, false, false, false, false, false, false, false, false, false, false, false, false, false, false, false, false, false] (any_of HT_.out (by kernel_rfl)) ?_
     refine pureZ_ (i := 1) (some 19) #[true, true, false, false, false, false, false, false, false, false, false, false, false, false, false, false, false, false, false, false, false, false, false] (any_of HT_.out (by kernel_rfl)) ?_
     refine pureZ_ (i := 2) (some 20) #[true, true, true, false, false, false, false, false, false, false, false, false, false, false, false, false, false, false, false, false, false, false, false] (any_of HT_.out (by kernel_rfl)) ?_
     refine takeZ_ (i := 3) (some 21) #[true, true, true, true, false, false, false, false, false, false, false, false, false, false, false, false, false, false, false, false, false, false, false] (take_ofW HT_.out HW_.out (by kernel_rfl)) hHeld ?_
     refine one_ (i := 4) (N := some 22) #[true, true, true, true, true, false, false, false, false, false, false, false, false, false, false, false, false, false, false, false, false, false, false] rfl rfl (one_of HT_.out (by kernel_rfl)) (by decide) (fun K hK => ?_)
     refine goes_ Try.func115 (by kernel_rfl) rfl #[.agg #[.int .i64 ((rd_T46 l0 x7_1).f0), .int .i64 ((rd_T46 l0 x7_1).f1.f0), .int .i64 ((rd_T46 l0 x7_1).f1.f1), .int .i64 ((rd_T46 l0 x7_1).f2), .int .i64 ((rd_T46 l0 x7_1).f3.f0), .int .i64 ((rd_T46 l0 x7_1).f3.f1), .int .i64 ((rd_T46 l0 x7_1).f4.f0), .int .i64 ((rd_T46 l0 x7_1).f4.f1), .int .i64 ((rd_T46 l0 x7_1).f5), .int .i64 ((rd_T46 l0 x7_1).f6)]] (by rfl) rfl rfl (by (try simp only [List.map_toArray, List.map_cons, List.map_nil]); first | done | rfl | (simp only [List.length_drop, List.length_take]; rfl)) ?_
     with_reducible refine (spec_CredOk.calls k1 ((rd_T46 l0 x7_1).f0) ((rd_T46 l0 x7_1).f1.f0) ((rd_T46 l0 x7_1).f1.f1) ((rd_T46 l0 x7_1).f2) ((rd_T46 l0 x7_1).f3.f0) ((rd_T46 l0 x7_1).f3.f1) ((rd_T46 l0 x7_1).f4.f0) ((rd_T46 l0 x7_1).f4.f1) ((rd_T46 l0 x7_1).f5) ((rd_T46 l0 x7_1).f6) false _ A11.out).mono ?_
     rintro e w31 ⟨rfl, hb⟩
     refine ⟨_, rfl, ?_⟩
     replace HO_5 := hob_ HO_5 hb
     replace HO_6 := hob_ HO_6 hb
     replace BK713 := bkb_ BK713 hb
     replace HB := hbs_ hb
     (try clear hb)
     (try clear hb2)
     (try clear hk)
     (try clear hi)
     refine hK.out _ _ ⟨((HB.out.cell (World.block_lt_of_cell? w _ hw720_0)).trans hw720_0), ((HB.out.cell (World.block_lt_of_cell? w _ hw720_1)).trans hw720_1), ((HB.out.cell (World.block_lt_of_cell? w _ hw720_2)).trans hw720_2), ((HB.out.cell (World.block_lt_of_cell? w _ hw720_3)).trans hw720_3), ((HB.out.cell (World.block_lt_of_cell? w _ hw720_4)).trans hw720_4), ((HB.out.cell (World.block_lt_of_cell? w _ hw720_5)).trans hw720_5), ((HB.out.cell (World.block_lt_of_cell? w _ hw720_6)).trans hw720_6), ((HB.out.cell (World.block_lt_of_cell? w _ hw720_7)).trans hw720_7), ((HB.out.cell (World.block_lt_of_cell? w _ hw720_8)).trans hw720_8), ((HB.out.cell (World.block_lt_of_cell? w _ hw720_9)).trans hw720_9)⟩ (fun hHeld => ?_)
     clear hK K
     refine norm_ (a' := ?_) ?_ ?_
     rotate_left
     ·show Act.put _ (some 22) _ = _
      simp only [Act.put, List.setIfInBounds_toArray, List.set_cons_zero, List.set_cons_succ, i64_w, i32_w]
      rfl
     refine pureZ_ (i := 5) (some 23) #[true, true, true, true, true, true, false, false, false, false, false, false, false, false, false, false, false, false, false, false, false, false, false] (any_of HT_.out (by kernel_rfl)) ?_
     refine pure_ (i := 6) (N := some 24) (v := undef) (a' := ?_) #[true, true, true, true, true, true, true, false, false, false, false, false, false, false, false, false, false, false, false, false, false, false, false] rfl rfl (any_of HT_.out (by kernel_rfl)) (fun _ _ _ h => h) (Or.inr ⟨by rfl, rfl⟩) ?_ ?_
     rotate_left
     ·simp only [Act.put, List.setIfInBounds_toArray, List.set_cons_zero, List.set_cons_succ, i64_w, i32_w]
      rfl
     refine pure_ (i := 7) (N := some 25) (v := undef) (a' := ?_) #[true, true, true, true, true, true, true, true, false, false, false, false, false, false, false, false, false, false, false, false, false, false, false] rfl rfl (any_of HT_.out (by kernel_rfl)) (fun _ _ _ h => h) (Or.inr ⟨by rfl, rfl⟩) ?_ ?_
     rotate_left
     ·simp only [Act.put, List.setIfInBounds_toArray, List.set_cons_zero, List.set_cons_succ, i64_w, i32_w]
      rfl
     refine pure_ (i := 8) (N := some 26) (v := undef) (a' := ?_) #[true, true, true, true, true, true, true, true, true, false, false, false, false, false, false, false, false, false, false, false, false, false, false] rfl rfl (any_of HT_.out (by kernel_rfl)) (fun _ _ _ h => h) (Or.inr ⟨by rfl, rfl⟩) ?_ ?_
     rotate_left
     ·simp only [Act.put, List.setIfInBounds_toArray, List.set_cons_zero, List.set_cons_succ, i64_w, i32_w]
      rfl
     refine pure_ (i := 9) (N := some 27) (v := undef) (a' := ?_) #[true, true, true, true, true, true, true, true, true, true, false, false, false, false, false, false, false, false, false, false, false, false, false] rfl rfl (any_of HT_.out (by kernel_rfl)) (fun _ _ _ h => h) (Or.inr ⟨by rfl, rfl⟩) ?_ ?_
     rotate_left
     ·simp only [Act.put, List.setIfInBounds_toArray, List.set_cons_zero, List.set_cons_succ, i64_w, i32_w]
      rfl
     refine pure_ (i := 10) (N := some 28) (v := undef) (a' := ?_) #[true, true, true, true, true, true, true, true, true, true, true, false, false, false, false, false, false, false, false, false, false, false, false] rfl rfl (any_of HT_.out (by kernel_rfl)) (fun _ _ _ h => h) (Or.inr ⟨by rfl, rfl⟩) ?_ ?_
     rotate_left
     ·simp only [Act.put, List.setIfInBounds_toArray, List.set_cons_zero, List.set_cons_succ, i64_w, i32_w]
      rfl
     refine pure_ (i := 11) (N := some 29) (v := undef) (a' := ?_) #[true, true, true, true, true, true, true, true, true, true, true, true, false, false, false, false, false, false, false, false, false, false, false] rfl rfl (any_of HT_.out (by kernel_rfl)) (fun _ _ _ h => h) (Or.inr ⟨by rfl, rfl⟩) ?_ ?_
     rotate_left
     ·simp only [Act.put, List.setIfInBounds_toArray, List.set_cons_zero, List.set_cons_succ, i64_w, i32_w]
      rfl
     refine pure_ (i := 12) (N := some 30) (v := undef) (a' := ?_) #[true, true, true, true, true, true, true, true, true, true, true, true, true, false, false, false, false, false, false, false, false, false, false] rfl rfl (any_of HT_.out (by kernel_rfl)) (fun _ _ _ h => h) (Or.inr ⟨by rfl, rfl⟩) ?_ ?_
     rotate_left
     ·simp only [Act.put, List.setIfInBounds_toArray, List.set_cons_zero, List.set_cons_succ, i64_w, i32_w]
      rfl
     refine pure_ (i := 13) (N := some 31) (v := undef) (a' := ?_) #[true, true, true, true, true, true, true, true, true, true, true, true, true, true, false, false, false, false, false, false, false, false, false] rfl rfl (any_of HT_.out (by kernel_rfl)) (fun _ _ _ h => h) (Or.inr ⟨by rfl, rfl⟩) ?_ ?_
     rotate_left
     ·simp only [Act.put, List.setIfInBounds_toArray, List.set_cons_zero, List.set_cons_succ, i64_w, i32_w]
      rfl
     refine pure_ (i := 14) (N := some 32) (v := undef) (a' := ?_) #[true, true, true, true, true, true, true, true, true, true, true, true, true, true, true, false, false, false, false, false, false, false, false] rfl rfl (any_of HT_.out (by kernel_rfl)) (fun _ _ _ h => h) (Or.inr ⟨by rfl, rfl⟩) ?_ ?_
     rotate_left
     ·simp only [Act.put, List.setIfInBounds_toArray, List.set_cons_zero, List.set_cons_succ, i64_w, i32_w]
      rfl
     refine pure_ (i := 15) (N := some 33) (v := undef) (a' := ?_) #[true, true, true, true, true, true, true, true, true, true, true, true, true, true, true, true, false, false, false, false, false, false, false] rfl rfl (any_of HT_.out (by kernel_rfl)) (fun _ _ _ h => h) (Or.inr ⟨by rfl, rfl⟩) ?_ ?_
     rotate_left
     ·simp only [Act.put, List.setIfInBounds_toArray, List.set_cons_zero, List.set_cons_succ, i64_w, i32_w]
      rfl
     refine pure_ (i := 16) (N := some 34) (v := undef) (a' := ?_) #[true, true, true, true, true, true, true, true, true, true, true, true, true, true, true, true, true, false, false, false, false, false, false] rfl rfl (any_of HT_.out (by kernel_rfl)) (fun _ _ _ h => h) (Or.inr ⟨by rfl, rfl⟩) ?_ ?_
     rotate_left
     ·simp only [Act.put, List.setIfInBounds_toArray, List.set_cons_zero, List.set_cons_succ, i64_w, i32_w]
      rfl
     refine pure_ (i := 17) (N := some 35) (v := undef) (a' := ?_) #[true, true, true, true, true, true, true, true, true, true, true, true, true, true, true, true, true, true, false, false, false, false, false] rfl rfl (any_of HT_.out (by kernel_rfl)) (fun _ _ _ h => h) (Or.inr ⟨by rfl, rfl⟩) ?_ ?_
     rotate_left
     ·simp only [Act.put, List.setIfInBounds_toArray, List.set_cons_zero, List.set_cons_succ, i64_w, i32_w]
      rfl
     refine pure_ (i := 18) (N := some 36) (v := undef) (a' := ?_) #[true, true, true, true, true, true, true, true, true, true, true, true, true, true, true, true, true, true, true, false, false, false, false] rfl rfl (any_of HT_.out (by kernel_rfl)) (fun _ _ _ h => h) (Or.inr ⟨by rfl, rfl⟩) ?_ ?_
     rotate_left
     ·simp only [Act.put, List.setIfInBounds_toArray, List.set_cons_zero, List.set_cons_succ, i64_w, i32_w]
      rfl
     refine pure_ (i := 19) (N := some 37) (v := undef) (a' := ?_) #[true, true, true, true, true, true, true, true, true, true, true, true, true, true, true, true, true, true, true, true, false, false, false] rfl rfl (any_of HT_.out (by kernel_rfl)) (fun _ _ _ h => h) (Or.inr ⟨by rfl, rfl⟩) ?_ ?_
     rotate_left
     ·simp only [Act.put, List.setIfInBounds_toArray, List.set_cons_zero, List.set_cons_succ, i64_w, i32_w]
      rfl
     refine pure_ (i := 20) (N := some 38) (v := undef) (a' := ?_) #[true, true, true, true, true, true, true, true, true, true, true, true, true, true, true, true, true, true, true, true, true, false, false] rfl rfl (any_of HT_.out (by kernel_rfl)) (fun _ _ _ h => h) (Or.inr ⟨by rfl, rfl⟩) ?_ ?_
     rotate_left
     ·simp only [Act.put, List.setIfInBounds_toArray, List.set_cons_zero, List.set_cons_succ, i64_w, i32_w]
      rfl
     refine pure_ (i := 21) (N := some 39) (v := undef) (a' := ?_) #[true, true, true, true, true, true, true, true, true, true, true, true, true, true, true, true, true, true, true, true, true, true, false] rfl rfl (any_of HT_.out (by kernel_rfl)) (fun _ _ _ h => h) (Or.inr ⟨by rfl, rfl⟩) ?_ ?_
     rotate_left
     ·simp only [Act.put, List.setIfInBounds_toArray, List.set_cons_zero, List.set_cons_succ, i64_w, i32_w]
      rfl
     refine pureZ_ (i := 22) (some 40) #[true, true, true, true, true, true, true, true, true, true, true, true, true, true, true, true, true, true, true, true, true, true, true] (any_of HT_.out (by kernel_rfl)) ?_
     refine done_ (done_of HT_.out (by kernel_rfl)) ?_
     try go_wp2
     go_roundg k1
     case measure => have := HK1.out; omega
     case rel => exact ⟨(x5_1), (wrap64 (x7_1 + 1)), rf_, H', ⟨by have := HK1.out; omega⟩, ⟨by (with_reducible repeat (first | apply Kd.R_alloc | apply Kd.R_drewN | apply Kd.R_drew)); exact HO_5.out⟩, ⟨by (with_reducible repeat (first | apply Kd.R_alloc | apply Kd.R_drewN | apply Kd.R_drew)); exact HO_6.out⟩, ⟨bk_ BK713⟩, ⟨bl_⟩⟩
   ·rw [if_neg c9] at H
    have c9b0 : decide (x7_1 < (l0.length : Int)) = false := decide_eq_false c9
    clear c9
    obtain rfl := Option.some.inj H
    go_wp2
    go_ret
    exact ⟨_, eq_, by (with_reducible repeat (first | apply Kd.R_alloc | apply Kd.R_drewN | apply Kd.R_drew)); exact HO_5.out, bl_⟩
end Go.Proofs.Ytppdmcimddhbaaa.PE
