import Derived.Test.YtjpjidgfcljpcaaKMPAx16
-- printed by wip/tools
namespace Go.Proofs.Ytjpjidgfcljpcaa.PA
open Go.RowKit Go.Proofs.YtjpjidgfcljpcaaW.PrintWords Go.Proofs.YtjpjidgfcljpcaaW.PrintLast Go.Proofs.YtjpjidgfcljpcaaW.PrintMore
attribute [local go_sem] max2_int min2_int max_two min_two max_three min_three max_four min_four
set_option linter.unusedVariables false
set_option linter.unusedSimpArgs false
attribute [local go_sem high] eqA49
def spec_NeededFor.l0 : Nat → List (S56) → List (S56) → List (S49) → Int → Int → Int → Option ((List (S56)))
 | 0, _, _, _, _, _, _ => none
 | k + 1, x0, x5, x6, x7, x571000, x571001 => if x7 < (x0.length : Int) then (if 0 ≤ x7 then ((spec_CredOk.f k ((rd_T56 x0 x7).f0) ((rd_T56 x0 x7).f1.f0) ((rd_T56 x0 x7).f1.f1) ((rd_T56 x0 x7).f2) ((rd_T56 x0 x7).f3.f0) ((rd_T56 x0 x7).f3.f1) ((rd_T56 x0 x7).f4.f0) ((rd_T56 x0 x7).f4.f1) ((rd_T56 x0 x7).f5) ((rd_T56 x0 x7).f6)).bind fun t578 => (if t578 = true then (if (((rd_T56 x0 x7).f1.f0) == x571000 && (((rd_T56 x0 x7).f1.f1) == x571001)) = true then (if x5.length < 1759218604441 then (spec_NeededFor.l0 k x0 (x5 ++ [(⟨(rd_T56 x0 x7).f0, (⟨(rd_T56 x0 x7).f1.f0, (rd_T56 x0 x7).f1.f1⟩ : S49), (rd_T56 x0 x7).f2, (⟨(rd_T56 x0 x7).f3.f0, (rd_T56 x0 x7).f3.f1⟩ : S49), (⟨(rd_T56 x0 x7).f4.f0, (rd_T56 x0 x7).f4.f1⟩ : S49), (rd_T56 x0 x7).f5, (rd_T56 x0 x7).f6⟩ : S56)]) x6 (wrap64 (x7 + 1)) x571000 x571001) else (none)) else ((spec_l13Done.f k x6 ((rd_T56 x0 x7).f1.f0) ((rd_T56 x0 x7).f1.f1)).bind fun t585 => (if t585 = true then (if x5.length < 1759218604441 then (spec_NeededFor.l0 k x0 (x5 ++ [(⟨(rd_T56 x0 x7).f0, (⟨(rd_T56 x0 x7).f1.f0, (rd_T56 x0 x7).f1.f1⟩ : S49), (rd_T56 x0 x7).f2, (⟨(rd_T56 x0 x7).f3.f0, (rd_T56 x0 x7).f3.f1⟩ : S49), (⟨(rd_T56 x0 x7).f4.f0, (rd_T56 x0 x7).f4.f1⟩ : S49), (rd_T56 x0 x7).f5, (rd_T56 x0 x7).f6⟩ : S56)]) x6 (wrap64 (x7 + 1)) x571000 x571001) else (none)) else (spec_NeededFor.l0 k x0 x5 x6 (wrap64 (x7 + 1)) x571000 x571001)))) else (spec_NeededFor.l0 k x0 x5 x6 (wrap64 (x7 + 1)) x571000 x571001))) else (none)) else (some x5)
def spec_NeededFor.f (k : Nat) (l0 : List (S56)) (a1_0 : Int) (a1_1 : Int) : Option ((List (S56))) := (spec_ReachRoles.f k l0 a1_0 a1_1).bind fun t574 => (spec_NeededFor.l0 k l0 (([] : List (S56))) t574 0 a1_0 a1_1)
def spec_NeededFor.T6 : Bool × List (List Nat × List Nat) := (true, [([], []), ([], []), ([0, 1], [0, 1]), ([2], [2]), ([3], [3]), ([4, 4], [4]), ([5], [5]), ([5], [5]), ([6, 7, 5], [5, 6, 7]), ([8, 5], [5, 8]), ([9, 5], [5, 9]), ([5], [5]), ([10, 11, 5], [5, 10, 11]), ([12, 5, 5], [5, 12]), ([13], [13]), ([13], [13]), ([13], [13]), ([15, 16, 13], [13, 15, 16]), ([17, 13], [13, 17]), ([18, 13], [13, 18]), ([14, 19, 13, 13], [13, 14, 19]), ([13, 20, 5], [5, 13, 20]), ([5, 21], [5, 21])])
def spec_NeededFor.B6 : List Nat := [0, 0, 3, 7, 15, 31, 63, 63, 255, 511, 1023, 63, 4095, 8191, 16383, 16383, 16383, 114687, 245759, 507903, 1048575, 2097151, 4194303]
theorem spec_NeededFor.tab6 : rtab .any (opsOf Try.f76 6) = spec_NeededFor.T6 := by kernel_rfl
theorem spec_NeededFor.bits6 : waitsOk spec_NeededFor.T6.2 spec_NeededFor.B6 = true := by kernel_rfl
set_option maxHeartbeats 8000000 in
set_option maxRecDepth 100000 in
theorem spec_NeededFor.calls (k : Nat) (A0 : Option Addr) (c0 : Nat) (l0 : List (S56)) (a1_0 : Int) (a1_1 : Int) (r : List (S56)) (w : World) (hr0 : Kd.C k56 w A0 l0.length l0) (hc0 : l0.length ≤ c0) (h : spec_NeededFor.f k l0 a1_0 a1_1 = some r) :
  Calls Try.prog 76 #[.slice A0 l0.length c0, .agg #[.int .i64 a1_0, .int .i64 a1_1]] w fun e w' => ∃ v0_ : Value, e = .returned (v0_) ∧ Kd.R k56 56 w' w.heap.size (fun _ => True) v0_ r ∧ Below w.heap.size w w' := by
 have hu49 := Try.underlying49
 have hu56 := Try.underlying56
 have HR0 := Aside0.mk hr0
 have HC0 := Aside0.mk hc0
 clear hr0 hc0
 have HB := Aside0.mk (Below.refl w.heap.size w)
 have H : ((spec_ReachRoles.f k l0 a1_0 a1_1).bind fun t574 => (spec_NeededFor.l0 k l0 (([] : List (S56))) t574 0 a1_0 a1_1)) = some r := h
 clear h
 obtain ⟨y571, hy571⟩ : ∃ y_ : List (S56), y_ = (([] : List (S56))) := ⟨_, rfl⟩
 replace H : ((spec_ReachRoles.f k l0 a1_0 a1_1).bind fun t574 => (spec_NeededFor.l0 k l0 y571 t574 0 a1_0 a1_1)) = some r := by first | (rw [hy571]; with_reducible exact H) | (have H2_ := (Option.bind_some _ _).symm.trans H; rw [hy571]; with_reducible exact H2_) | (have H2_ := (Option.bind_some _ _).symm.trans H; with_reducible exact H2_) | with_reducible exact H | (rw [hy571]; exact H) | exact H
 have Ny571 := Aside0.mk hy571
 clear hy571
 obtain ⟨t574, A3, H⟩ := bindE_ H
 have H' := Aside0.mk H
 clear H
 go_enter Try.func76, Try.ntmps76
 go_wp2_with (first | ((with_reducible refine gate_dst (N := 3) rfl ?_); refine box_event ?hg (N := 3) ?hd (cs := #[.int .i64 a1_0, .int .i64 a1_1]) (t := 49) ?hr ?_; (case hd => rfl); (case hg => rfl); (case hr => first | (go_simp; done) | (go_simp; rfl)); intro gb570 hg w4 hbox hb; have BK570 := Aside0.mk (hbox); have GW570 := gs_ hg; have GE570 := gs_ hg; replace HB := hbs_ hb; clear hb hbox hg) | ((with_reducible refine gate_dst (N := 8) rfl ?_); refine Kd.R_lit k56 _ 56 ?hg (N := 8) ?hd (xs := ([] : List (S56))) (inner := []) (ok := fun _ => True) (okp := fun _ => True) ?hr ?hp (fun _ hk => hk) trivial (Below.refl _ _) (Nat.le_refl _) (by simp) ?_; (case hd => rfl); (case hg => rfl); (case hr => first | (go_simp; done) | (go_simp; rfl)); (case hp => exact (Reps.none _ _)); intro v572 w5 ho6 hb hg_ hnew_; clear hg_ hnew_; (first | rw [← Ny571.out] at ho6 | (simp only [Int.reduceToNat] at ho6; rw [← Ny571.out] at ho6)); have HO573 := Aside0.mk (Kd.R_lower ho6 bls_); replace BK570 := bkb_ BK570 hb; replace HB := hbs_ hb; clear hb ho6; have hcz7 := blk_cell BK570.out; have hfz7 := blk_frozen BK570.out) | ((with_reducible refine gate_callee (f := 75) rfl ?_); refine goesC_ (some 11) Try.func75 #[.slice A0 l0.length c0, .agg #[.int .i64 a1_0, .int .i64 a1_1]] ?_; (with_reducible refine (spec_ReachRoles.calls k _ _ l0 a1_0 a1_1 t574 _ ?side1 ?side2 A3.out).mono ?_); (case side1 => repeat (first | exact (Kd.C_below HR0.out HB.out) | (with_reducible refine Kd.C_alloc ?_ _) | (with_reducible refine Kd.C_drewN ?_ _) | (with_reducible refine Kd.C_drew ?_))); (case side2 => exact HC0.out); rintro e w8 ⟨v575, rfl, ho0, hb⟩; refine ⟨_, rfl, ?_⟩; replace HO573 := hob_ HO573 hb; have HO576 := Aside0.mk (Kd.R_lower (Kd.R_newB ho0 (g := gb570) (o := .cells #[.int .i64 a1_0, .int .i64 a1_1] 49 (0, 0)) (bk_ BK570)) bls_); replace BK570 := bkb_ BK570 hb; replace HB := hbs_ hb; (try clear hb); (try clear hb2); (try clear hk); (try clear hi); (try clear ho0)))
 go_loopg [5, 7] k (fun kq v5 v7 w' => ∃ (x5_1 : List (S56)) (x7_1 : Int), v7 = .int .i64 x7_1 ∧ Aside0 (spec_NeededFor.l0 kq l0 x5_1 t574 x7_1 a1_0 a1_1 = some r) ∧ Aside0 (kq ≤ k) ∧ Aside0 (Kd.R k56 56 w' w.heap.size (fun _ => True) v5 x5_1) ∧ Aside0 (Kd.R k49 49 w' w.heap.size (fun k_ => k_ ≠ gb570) v575 t574) ∧ Aside0 (w'.heap[gb570]? = some (.cells #[.int .i64 a1_0, .int .i64 a1_1] 49 (0, 0))) ∧ Aside0 (Below w.heap.size w w'))
 case atStart => exact ⟨(y571), (0), rf_, H', ⟨Nat.le_refl _⟩, ⟨by (with_reducible repeat (first | apply Kd.R_alloc | apply Kd.R_drewN | apply Kd.R_drew)); exact HO573.out⟩, ⟨by (with_reducible repeat (first | apply Kd.R_alloc | apply Kd.R_drewN | apply Kd.R_drew)); exact Kd.R_mono HO576.out (fun _ hk => hk.2)⟩, ⟨bk_ BK570⟩, ⟨bl_⟩⟩
 case round =>
  clear H'
  try clear p2
  try clear c7
  try clear hcz7
  try clear hfz7
  obtain ⟨x5_1, x7_1, rfl, HA, HK1, HO_5, HO_6, BK570, HB⟩ := hrel
  cases gk with
  | zero => exact absurd HA.out (by simp [spec_NeededFor.l0])
  | succ k1 =>
   have H := HA.out
   clear HA
   simp only [spec_NeededFor.l0] at H
   by_cases c9 : x7_1 < (l0.length : Int)
   ·rw [if_pos c9] at H
    have c9b0 : decide (x7_1 < (l0.length : Int)) = true := decide_eq_true c9
    clear c9
    obtain ⟨c10b0, H⟩ := ifd_ H
    obtain ⟨t578, A11, H⟩ := bindE_ H
    by_cases c12 : t578 = true
    ·subst c12
     replace H := ite_t_ H
     by_cases c13 : (((rd_T56 l0 x7_1).f1.f0) == a1_0 && (((rd_T56 l0 x7_1).f1.f1) == a1_1)) = true
     ·rw [if_pos c13] at H
      have c13b0 : (((rd_T56 l0 x7_1).f1.f0) == a1_0 && (((rd_T56 l0 x7_1).f1.f1) == a1_1)) = true := c13
      (try (have c13b1 : decide (((rd_T56 l0 x7_1).f1.f0) = a1_0 && (((rd_T56 l0 x7_1).f1.f1) == a1_1)) = true := by simpa using c13))
      (try (have c13b2 : (((rd_T56 l0 x7_1).f1.f0) == a1_0 && (((rd_T56 l0 x7_1).f1.f1) == a1_1)) = true := by simpa using c13))
      clear c13
      obtain ⟨c14, H⟩ := ifn_ H
      have LMc14 := Aside0.mk c14
      clear c14
      obtain ⟨y581, hy581⟩ : ∃ y_ : List (S56), y_ = (x5_1 ++ [(⟨(rd_T56 l0 x7_1).f0, (⟨(rd_T56 l0 x7_1).f1.f0, (rd_T56 l0 x7_1).f1.f1⟩ : S49), (rd_T56 l0 x7_1).f2, (⟨(rd_T56 l0 x7_1).f3.f0, (rd_T56 l0 x7_1).f3.f1⟩ : S49), (⟨(rd_T56 l0 x7_1).f4.f0, (rd_T56 l0 x7_1).f4.f1⟩ : S49), (rd_T56 l0 x7_1).f5, (rd_T56 l0 x7_1).f6⟩ : S56)]) := ⟨_, rfl⟩
      replace H : (spec_NeededFor.l0 k1 l0 y581 t574 (wrap64 (x7_1 + 1)) a1_0 a1_1) = some r := by first | (rw [hy581]; with_reducible exact H) | (have H2_ := (Option.bind_some _ _).symm.trans H; rw [hy581]; with_reducible exact H2_) | (have H2_ := (Option.bind_some _ _).symm.trans H; with_reducible exact H2_) | with_reducible exact H | (rw [hy581]; exact H) | exact H
      have Ny581 := Aside0.mk hy581
      clear hy581
      have H' := Aside0.mk H
      clear H
      try go_wp2
      replace HO_5 := Aside0.mk (Kd.R_drew HO_5.out)
      replace HO_6 := Aside0.mk (Kd.R_drew HO_6.out)
      replace BK570 := Aside0.mk (blk_drew BK570.out)
      replace HB := Aside0.mk (below_drew1 HB.out)
      have p577 : 0 ≤ (x7_1 : Int) := od_
      have q577 : x7_1 < (l0.length : Int) := od_
      obtain ⟨ad577, e577, hx577_0, hx577_1, hx577_2, hx577_3, hx577_4, hx577_5, hx577_6, hx577_7, hx577_8, hx577_9⟩ := at_T56 HR0.out x7_1 p577 q577
      have hw577_9 := hx577_9
      have hw577_8 := hx577_8
      have hw577_7 := hx577_7
      have hw577_6 := hx577_6
      have hw577_5 := hx577_5
      have hw577_4 := hx577_4
      have hw577_3 := hx577_3
      have hw577_2 := hx577_2
      have hw577_1 := hx577_1
      have hw577_0 := hx577_0
      cases e577
      replace hx577_0 := cb_ HB hx577_0
      replace hx577_1 := cb_ HB hx577_1
      replace hx577_2 := cb_ HB hx577_2
      replace hx577_3 := cb_ HB hx577_3
      replace hx577_4 := cb_ HB hx577_4
      replace hx577_5 := cb_ HB hx577_5
      replace hx577_6 := cb_ HB hx577_6
      replace hx577_7 := cb_ HB hx577_7
      replace hx577_8 := cb_ HB hx577_8
      replace hx577_9 := cb_ HB hx577_9
      replace p577 := eq_true p577
      replace q577 := eq_true q577
      have p579 : 0 ≤ (x7_1 : Int) := od_
      have q579 : x7_1 < (l0.length : Int) := od_
      obtain ⟨ad579, e579, hx579_0, hx579_1, hx579_2, hx579_3, hx579_4, hx579_5, hx579_6, hx579_7, hx579_8, hx579_9⟩ := at_T56 HR0.out x7_1 p579 q579
      have hw579_9 := hx579_9
      have hw579_8 := hx579_8
      have hw579_7 := hx579_7
      have hw579_6 := hx579_6
      have hw579_5 := hx579_5
      have hw579_4 := hx579_4
      have hw579_3 := hx579_3
      have hw579_2 := hx579_2
      have hw579_1 := hx579_1
      have hw579_0 := hx579_0
      obtain rfl : ad577 = ad579 := (by injection e579)
      replace hx579_0 := cb_ HB hx579_0
      replace hx579_1 := cb_ HB hx579_1
      replace hx579_2 := cb_ HB hx579_2
      replace hx579_3 := cb_ HB hx579_3
      replace hx579_4 := cb_ HB hx579_4
      replace hx579_5 := cb_ HB hx579_5
      replace hx579_6 := cb_ HB hx579_6
      replace hx579_7 := cb_ HB hx579_7
      replace hx579_8 := cb_ HB hx579_8
      replace hx579_9 := cb_ HB hx579_9
      replace p579 := eq_true p579
      replace q579 := eq_true q579
      refine start_ (n := 23) (S := fun w' => w'.cell? ⟨gb570, 0, none⟩ = some (.int .i64 a1_0) ∧ w'.cell? ⟨gb570, 1, none⟩ = some (.int .i64 a1_1) ∧ w'.cell? (ad577.add ((x7_1).toNat * 10)) = some (.int .i64 ((rd_T56 l0 x7_1).f0)) ∧ w'.cell? ⟨(ad577.add ((x7_1).toNat * 10)).block, (ad577.add ((x7_1).toNat * 10)).off + 1, none⟩ = some (.int .i64 ((rd_T56 l0 x7_1).f1.f0)) ∧ w'.cell? ⟨(ad577.add ((x7_1).toNat * 10)).block, (ad577.add ((x7_1).toNat * 10)).off + 2, none⟩ = some (.int .i64 ((rd_T56 l0 x7_1).f1.f1)) ∧ w'.cell? ⟨(ad577.add ((x7_1).toNat * 10)).block, (ad577.add ((x7_1).toNat * 10)).off + 3, none⟩ = some (.int .i64 ((rd_T56 l0 x7_1).f2)) ∧ w'.cell? ⟨(ad577.add ((x7_1).toNat * 10)).block, (ad577.add ((x7_1).toNat * 10)).off + 4, none⟩ = some (.int .i64 ((rd_T56 l0 x7_1).f3.f0)) ∧ w'.cell? ⟨(ad577.add ((x7_1).toNat * 10)).block, (ad577.add ((x7_1).toNat * 10)).off + 5, none⟩ = some (.int .i64 ((rd_T56 l0 x7_1).f3.f1)) ∧ w'.cell? ⟨(ad577.add ((x7_1).toNat * 10)).block, (ad577.add ((x7_1).toNat * 10)).off + 6, none⟩ = some (.int .i64 ((rd_T56 l0 x7_1).f4.f0)) ∧ w'.cell? ⟨(ad577.add ((x7_1).toNat * 10)).block, (ad577.add ((x7_1).toNat * 10)).off + 7, none⟩ = some (.int .i64 ((rd_T56 l0 x7_1).f4.f1)) ∧ w'.cell? ⟨(ad577.add ((x7_1).toNat * 10)).block, (ad577.add ((x7_1).toNat * 10)).off + 8, none⟩ = some (.int .i64 ((rd_T56 l0 x7_1).f5)) ∧ w'.cell? ⟨(ad577.add ((x7_1).toNat * 10)).block, (ad577.add ((x7_1).toNat * 10)).off + 9, none⟩ = some (.int .i64 ((rd_T56 l0 x7_1).f6)) ∧ w'.cell? (ad577.add ((x7_1).toNat * 10)) = some (.int .i64 ((rd_T56 l0 x7_1).f0)) ∧ w'.cell? ⟨(ad577.add ((x7_1).toNat * 10)).block, (ad577.add ((x7_1).toNat * 10)).off + 1, none⟩ = some (.int .i64 ((rd_T56 l0 x7_1).f1.f0)) ∧ w'.cell? ⟨(ad577.add ((x7_1).toNat * 10)).block, (ad577.add ((x7_1).toNat * 10)).off + 2, none⟩ = some (.int .i64 ((rd_T56 l0 x7_1).f1.f1)) ∧ w'.cell? ⟨(ad577.add ((x7_1).toNat * 10)).block, (ad577.add ((x7_1).toNat * 10)).off + 3, none⟩ = some (.int .i64 ((rd_T56 l0 x7_1).f2)) ∧ w'.cell? ⟨(ad577.add ((x7_1).toNat * 10)).block, (ad577.add ((x7_1).toNat * 10)).off + 4, none⟩ = some (.int .i64 ((rd_T56 l0 x7_1).f3.f0)) ∧ w'.cell? ⟨(ad577.add ((x7_1).toNat * 10)).block, (ad577.add ((x7_1).toNat * 10)).off + 5, none⟩ = some (.int .i64 ((rd_T56 l0 x7_1).f3.f1)) ∧ w'.cell? ⟨(ad577.add ((x7_1).toNat * 10)).block, (ad577.add ((x7_1).toNat * 10)).off + 6, none⟩ = some (.int .i64 ((rd_T56 l0 x7_1).f4.f0)) ∧ w'.cell? ⟨(ad577.add ((x7_1).toNat * 10)).block, (ad577.add ((x7_1).toNat * 10)).off + 7, none⟩ = some (.int .i64 ((rd_T56 l0 x7_1).f4.f1)) ∧ w'.cell? ⟨(ad577.add ((x7_1).toNat * 10)).block, (ad577.add ((x7_1).toNat * 10)).off + 8, none⟩ = some (.int .i64 ((rd_T56 l0 x7_1).f5)) ∧ w'.cell? ⟨(ad577.add ((x7_1).toNat * 10)).block, (ad577.add ((x7_1).toNat * 10)).off + 9, none⟩ = some (.int .i64 ((rd_T56 l0 x7_1).f6))) (ds := []) #[false, false, false, false, false, false, false, false, false, false, false, false, false, false, false, false, false, false, false, false, false, false, false] (by kernel_rfl) rfl rfl ⟨(blk_cell BK570.out 0).trans rfl, (blk_cell BK570.out 1).trans rfl, ((HB.out.cell (World.block_lt_of_cell? w _ hw577_0)).trans hw577_0), ((HB.out.cell (World.block_lt_of_cell? w _ hw577_1)).trans hw577_1), ((HB.out.cell (World.block_lt_of_cell? w _ hw577_2)).trans hw577_2), ((HB.out.cell (World.block_lt_of_cell? w _ hw577_3)).trans hw577_3), ((HB.out.cell (World.block_lt_of_cell? w _ hw577_4)).trans hw577_4), ((HB.out.cell (World.block_lt_of_cell? w _ hw577_5)).trans hw577_5), ((HB.out.cell (World.block_lt_of_cell? w _ hw577_6)).trans hw577_6), ((HB.out.cell (World.block_lt_of_cell? w _ hw577_7)).trans hw577_7), ((HB.out.cell (World.block_lt_of_cell? w _ hw577_8)).trans hw577_8), ((HB.out.cell (World.block_lt_of_cell? w _ hw577_9)).trans hw577_9), ((HB.out.cell (World.block_lt_of_cell? w _ hw579_0)).trans hw579_0), ((HB.out.cell (World.block_lt_of_cell? w _ hw579_1)).trans hw579_1), ((HB.out.cell (World.block_lt_of_cell? w _ hw579_2)).trans hw579_2), ((HB.out.cell (World.block_lt_of_cell? w _ hw579_3)).trans hw579_3), ((HB.out.cell (World.block_lt_of_cell? w _ hw579_4)).trans hw579_4), ((HB.out.cell (World.block_lt_of_cell? w _ hw579_5)).trans hw579_5), ((HB.out.cell (World.block_lt_of_cell? w _ hw579_6)).trans hw579_6), ((HB.out.cell (World.block_lt_of_cell? w _ hw579_7)).trans hw579_7), ((HB.out.cell (World.block_lt_of_cell? w _ hw579_8)).trans hw579_8), ((HB.out.cell (World.block_lt_of_cell? w _ hw579_9)).trans hw579_9)⟩ (fun hHeld => ?_); refine with_tabW spec_NeededFor.tab6 spec_NeededFor.bits6 (fun HT_ HW_ => ?_)
      generalize wr.drew = w15 at HO_5 HO_6 BK570 HB hx577_0 hx577_1 hx577_2 hx577_3 hx577_4 hx577_5 hx577_6 hx577_7 hx577_8 hx577_9 hx579_0 hx579_1 hx579_2 hx579_3 hx579_4 hx579_5 hx579_6 hx579_7 hx579_8 hx579_9 hHeld ⊢
      refine pureZ_ (i := 0) (some 18) #[true, false, false, false, false, false, false, false, false, false, false, false, false, false, false, false, false, false, false, false, false, false, false] (any_of HT_.out (by kernel_rfl)) ?_
      refine pureZ_ (i := 1) (some 19) #[true, true, false, false, false, false, false, false, false, false, false, false, false, false, false, false, false, false, false, false, false, false, false] (any_of HT_.out (by kernel_rfl)) ?_
      refine pureZ_ (i := 2) (some 20) #[true, true, true, false, false, false, false, false, false, false, false, false, false, false, false, false, false, false, false, false, false, false, false] (any_of HT_.out (by kernel_rfl)) ?_
      refine takeZ_ (i := 3) (some 21) #[true, true, true, true, false, false, false, false, false, false, false, false, false, false, false, false, false, false, false, false, false, false, false] (take_ofW HT_.out HW_.out (by kernel_rfl)) hHeld ?_
      refine one_ (i := 4) (N := some 22) #[true, true, true, true, true, false, false, false, false, false, false, false, false, false, false, false, false, false, false, false, false, false, false] rfl rfl (one_of HT_.out (by kernel_rfl)) (by decide) (fun K hK => ?_)
      refine goes_ Try.func94 (by kernel_rfl) rfl #[.agg #[.int .i64 ((rd_T56 l0 x7_1).f0), .int .i64 ((rd_T56 l0 x7_1).f1.f0), .int .i64 ((rd_T56 l0 x7_1).f1.f1), .int .i64 ((rd_T56 l0 x7_1).f2), .int .i64 ((rd_T56 l0 x7_1).f3.f0), .int .i64 ((rd_T56 l0 x7_1).f3.f1), .int .i64 ((rd_T56 l0 x7_1).f4.f0), .int .i64 ((rd_T56 l0 x7_1).f4.f1), .int .i64 ((rd_T56 l0 x7_1).f5), .int .i64 ((rd_T56 l0 x7_1).f6)]] (by rfl) rfl rfl (by (try simp only [List.map_toArray, List.map_cons, List.map_nil]); first | done | rfl | (simp only [List.length_drop, List.length_take]; rfl)) ?_
      with_reducible refine (spec_CredOk.calls k1 ((rd_T56 l0 x7_1).f0) ((rd_T56 l0 x7_1).f1.f0) ((rd_T56 l0 x7_1).f1.f1) ((rd_T56 l0 x7_1).f2) ((rd_T56 l0 x7_1).f3.f0) ((rd_T56 l0 x7_1).f3.f1) ((rd_T56 l0 x7_1).f4.f0) ((rd_T56 l0 x7_1).f4.f1) ((rd_T56 l0 x7_1).f5) ((rd_T56 l0 x7_1).f6) true _ A11.out).mono ?_
      rintro e w16 ⟨rfl, hb⟩
      refine ⟨_, rfl, ?_⟩
      replace HO_5 := hob_ HO_5 hb
      replace HO_6 := hob_ HO_6 hb
      replace BK570 := bkb_ BK570 hb
      replace HB := hbs_ hb
      (try clear hb)
      (try clear hb2)
      (try clear hk)
      (try clear hi)
      refine hK.out _ _ ⟨(blk_cell BK570.out 0).trans rfl, (blk_cell BK570.out 1).trans rfl, ((HB.out.cell (World.block_lt_of_cell? w _ hw577_0)).trans hw577_0), ((HB.out.cell (World.block_lt_of_cell? w _ hw577_1)).trans hw577_1), ((HB.out.cell (World.block_lt_of_cell? w _ hw577_2)).trans hw577_2), ((HB.out.cell (World.block_lt_of_cell? w _ hw577_3)).trans hw577_3), ((HB.out.cell (World.block_lt_of_cell? w _ hw577_4)).trans hw577_4), ((HB.out.cell (World.block_lt_of_cell? w _ hw577_5)).trans hw577_5), ((HB.out.cell (World.block_lt_of_cell? w _ hw577_6)).trans hw577_6), ((HB.out.cell (World.block_lt_of_cell? w _ hw577_7)).trans hw577_7), ((HB.out.cell (World.block_lt_of_cell? w _ hw577_8)).trans hw577_8), ((HB.out.cell (World.block_lt_of_cell? w _ hw577_9)).trans hw577_9), ((HB.out.cell (World.block_lt_of_cell? w _ hw579_0)).trans hw579_0), ((HB.out.cell (World.block_lt_of_cell? w _ hw579_1)).trans hw579_1), ((HB.out.cell (World.block_lt_of_cell? w _ hw579_2)).trans hw579_2), ((HB.out.cell (World.block_lt_of_cell? w _ hw579_3)).trans hw579_3), ((HB.out.cell (World.block_lt_of_cell? w _ hw579_4)).trans hw579_4), ((HB.out.cell (World.block_lt_of_cell? w _ hw579_5)).trans hw579_5), ((HB.out.cell (World.block_lt_of_cell? w _ hw579_6)).trans hw579_6), ((HB.out.cell (World.block_lt_of_cell? w _ hw579_7)).trans hw579_7), ((HB.out.cell (World.block_lt_of_cell? w _ hw579_8)).trans hw579_8), ((HB.out.cell (World.block_lt_of_cell? w _ hw579_9)).trans hw579_9)⟩ (fun hHeld => ?_)
      clear hK K
      refine norm_ (a' := ?_) ?_ ?_
      rotate_left
      ·show Act.put _ (some 22) _ = _
       simp only [Act.put, List.setIfInBounds_toArray, List.set_cons_zero, List.set_cons_succ, i64_w, i32_w]
       rfl
      refine pureZ_ (i := 5) (some 23) #[true, true, true, true, true, true, false, false, false, false, false, false, false, false, false, false, false, false, false, false, false, false, false] (any_of HT_.out (by kernel_rfl)) ?_
      refine pureZ_ (i := 6) (some 24) #[true, true, true, true, true, true, true, false, false, false, false, false, false, false, false, false, false, false, false, false, false, false, false] (any_of HT_.out (by kernel_rfl)) ?_
      refine pureZ_ (i := 7) (some 25) #[true, true, true, true, true, true, true, true, false, false, false, false, false, false, false, false, false, false, false, false, false, false, false] (any_of HT_.out (by kernel_rfl)) ?_
      refine pureZ_ (i := 8) (some 26) #[true, true, true, true, true, true, true, true, true, false, false, false, false, false, false, false, false, false, false, false, false, false, false] (any_of HT_.out (by kernel_rfl)) ?_
      refine pureZ_ (i := 9) (some 27) #[true, true, true, true, true, true, true, true, true, true, false, false, false, false, false, false, false, false, false, false, false, false, false] (any_of HT_.out (by kernel_rfl)) ?_
      refine takeZ_ (i := 10) (some 28) #[true, true, true, true, true, true, true, true, true, true, true, false, false, false, false, false, false, false, false, false, false, false, false] (take_ofW HT_.out HW_.out (by kernel_rfl)) hHeld ?_
      refine takeZ_ (i := 11) (some 29) #[true, true, true, true, true, true, true, true, true, true, true, true, false, false, false, false, false, false, false, false, false, false, false] (take_ofW HT_.out HW_.out (by kernel_rfl)) hHeld ?_
      refine pureZ_ (i := 12) (some 30) #[true, true, true, true, true, true, true, true, true, true, true, true, true, false, false, false, false, false, false, false, false, false, false] (any_of HT_.out (by kernel_rfl)) ?_
      refine pureZ_ (i := 13) (some 31) #[true, true, true, true, true, true, true, true, true, true, true, true, true, true, false, false, false, false, false, false, false, false, false] (any_of HT_.out (by kernel_rfl)) ?_
      refine pure_ (i := 14) (N := some 32) (v := undef) (a' := ?_) #[true, true, true, true, true, true, true, true, true, true, true, true, true, true, true, false, false, false, false, false, false, false, false] rfl rfl (any_of HT_.out (by kernel_rfl)) (fun _ _ _ h => h) (Or.inr ⟨by rfl, rfl⟩) ?_ ?_
      rotate_left
      ·simp only [Act.put, List.setIfInBounds_toArray, List.set_cons_zero, List.set_cons_succ, i64_w, i32_w]
       rfl
      refine pure_ (i := 15) (N := some 33) (v := undef) (a' := ?_) #[true, true, true, true, true, true, true, true, true, true, true, true, true, true, true, true, false, false, false, false, false, false, false] rfl rfl (any_of HT_.out (by kernel_rfl)) (fun _ _ _ h => h) (Or.inr ⟨by rfl, rfl⟩) ?_ ?_
      rotate_left
      ·simp only [Act.put, List.setIfInBounds_toArray, List.set_cons_zero, List.set_cons_succ, i64_w, i32_w]
       rfl
      refine pure_ (i := 16) (N := some 34) (v := undef) (a' := ?_) #[true, true, true, true, true, true, true, true, true, true, true, true, true, true, true, true, true, false, false, false, false, false, false] rfl rfl (any_of HT_.out (by kernel_rfl)) (fun _ _ _ h => h) (Or.inr ⟨by rfl, rfl⟩) ?_ ?_
      rotate_left
      ·simp only [Act.put, List.setIfInBounds_toArray, List.set_cons_zero, List.set_cons_succ, i64_w, i32_w]
       rfl
      refine pure_ (i := 17) (N := some 35) (v := undef) (a' := ?_) #[true, true, true, true, true, true, true, true, true, true, true, true, true, true, true, true, true, true, false, false, false, false, false] rfl rfl (any_of HT_.out (by kernel_rfl)) (fun _ _ _ h => h) (Or.inr ⟨by rfl, rfl⟩) ?_ ?_
      rotate_left
      ·simp only [Act.put, List.setIfInBounds_toArray, List.set_cons_zero, List.set_cons_succ, i64_w, i32_w]
       rfl
      refine pure_ (i := 18) (N := some 36) (v := undef) (a' := ?_) #[true, true, true, true, true, true, true, true, true, true, true, true, true, true, true, true, true, true, true, false, false, false, false] rfl rfl (any_of HT_.out (by kernel_rfl)) (fun _ _ _ h => h) (Or.inr ⟨by rfl, rfl⟩) ?_ ?_
      rotate_left
      ·simp only [Act.put, List.setIfInBounds_toArray, List.set_cons_zero, List.set_cons_succ, i64_w, i32_w]
       rfl
      refine pure_ (i := 19) (N := some 37) (v := undef) (a' := ?_) #[true, true, true, true, true, true, true, true, true, true, true, true, true, true, true, true, true, true, true, true, false, false, false] rfl rfl (any_of HT_.out (by kernel_rfl)) (fun _ _ _ h => h) (Or.inr ⟨by rfl, rfl⟩) ?_ ?_
      rotate_left
      ·simp only [Act.put, List.setIfInBounds_toArray, List.set_cons_zero, List.set_cons_succ, i64_w, i32_w]
       rfl
      refine pure_ (i := 20) (N := some 38) (v := undef) (a' := ?_) #[true, true, true, true, true, true, true, true, true, true, true, true, true, true, true, true, true, true, true, true, true, false, false] rfl rfl (any_of HT_.out (by kernel_rfl)) (fun _ _ _ h => h) (Or.inr ⟨by rfl, rfl⟩) ?_ ?_
      rotate_left
      ·simp only [Act.put, List.setIfInBounds_toArray, List.set_cons_zero, List.set_cons_succ, i64_w, i32_w]
       rfl
      refine pureZ_ (i := 21) (some 39) #[true, true, true, true, true, true, true, true, true, true, true, true, true, true, true, true, true, true, true, true, true, true, false] (any_of HT_.out (by kernel_rfl)) ?_
      refine pureZ_ (i := 22) (some 40) #[true, true, true, true, true, true, true, true, true, true, true, true, true, true, true, true, true, true, true, true, true, true, true] (any_of HT_.out (by kernel_rfl)) ?_
      refine done_ (done_of HT_.out (by kernel_rfl)) ?_
      have p580 : 0 ≤ (x7_1 : Int) := od_
      have q580 : x7_1 < (l0.length : Int) := od_
      obtain ⟨ad580, e580, hx580_0, hx580_1, hx580_2, hx580_3, hx580_4, hx580_5, hx580_6, hx580_7, hx580_8, hx580_9⟩ := at_T56 HR0.out x7_1 p580 q580
      obtain rfl : ad577 = ad580 := (by injection e580)
      replace hx580_0 := cb_ HB hx580_0
      replace hx580_1 := cb_ HB hx580_1
      replace hx580_2 := cb_ HB hx580_2
      replace hx580_3 := cb_ HB hx580_3
      replace hx580_4 := cb_ HB hx580_4
      replace hx580_5 := cb_ HB hx580_5
      replace hx580_6 := cb_ HB hx580_6
      replace hx580_7 := cb_ HB hx580_7
      replace hx580_8 := cb_ HB hx580_8
      replace hx580_9 := cb_ HB hx580_9
      replace p580 := eq_true p580
      replace q580 := eq_true q580
      try go_wp2_with (first | ((with_reducible refine gate_builtin (b := .append) (xs := #[.tmp 41, .tmp 46]) rfl ?_); at_builtin; refine Kd.R_append k56 (w0 := w) w.heap.size rfl (.tmp 41) (.tmp 46) 32 56 (.agg #[(.int .i64 0), (.int .i64 0), (.int .i64 0), (.int .i64 0), (.int .i64 0), (.int .i64 0), (.int .i64 0), (.int .i64 0), (.int .i64 0), (.int .i64 0)]) 80 rfl Try.underlying32 info56 rfl (by decide) (by omega) u5 x5_1 (⟨(rd_T56 l0 x7_1).f0, (⟨(rd_T56 l0 x7_1).f1.f0, (rd_T56 l0 x7_1).f1.f1⟩ : S49), (rd_T56 l0 x7_1).f2, (⟨(rd_T56 l0 x7_1).f3.f0, (rd_T56 l0 x7_1).f3.f1⟩ : S49), (⟨(rd_T56 l0 x7_1).f4.f0, (rd_T56 l0 x7_1).f4.f1⟩ : S49), (rd_T56 l0 x7_1).f5, (rd_T56 l0 x7_1).f6⟩ : S56) [.int .i64 ((rd_T56 l0 x7_1).f0), .int .i64 ((rd_T56 l0 x7_1).f1.f0), .int .i64 ((rd_T56 l0 x7_1).f1.f1), .int .i64 ((rd_T56 l0 x7_1).f2), .int .i64 ((rd_T56 l0 x7_1).f3.f0), .int .i64 ((rd_T56 l0 x7_1).f3.f1), .int .i64 ((rd_T56 l0 x7_1).f4.f0), .int .i64 ((rd_T56 l0 x7_1).f4.f1), .int .i64 ((rd_T56 l0 x7_1).f5), .int .i64 ((rd_T56 l0 x7_1).f6)] (fun _ => True) (fun _ => False) rfl rfl ?aP (fun _ hk => hk.elim) ?aF ?aO ?aB ?aS ?aL ?_; (case aP => exact k56_mkM _ _ _ (⟨(rd_T56 l0 x7_1).f0, (⟨(rd_T56 l0 x7_1).f1.f0, (rd_T56 l0 x7_1).f1.f1⟩ : S49), (rd_T56 l0 x7_1).f2, (⟨(rd_T56 l0 x7_1).f3.f0, (rd_T56 l0 x7_1).f3.f1⟩ : S49), (⟨(rd_T56 l0 x7_1).f4.f0, (rd_T56 l0 x7_1).f4.f1⟩ : S49), (rd_T56 l0 x7_1).f5, (rd_T56 l0 x7_1).f6⟩ : S56)); (case aB => exact bl_); (case aF => exact (fun _ _ => trivial)); (case aO => exact (by (with_reducible repeat (first | apply Kd.R_alloc | apply Kd.R_drewN | apply Kd.R_drew)); exact HO_5.out)); (case aS => exact bls_); (case aL => have := LMc14.out; omega); intro v582 w17 ho hb hg hat; rw [← Ny581.out] at ho; replace HO_6 := Aside0.mk (Kd.R_over' (by (with_reducible repeat (first | apply Kd.R_alloc | apply Kd.R_drewN | apply Kd.R_drew)); exact HO_6.out) (Kd.R_typed (by (with_reducible repeat (first | apply Kd.R_alloc | apply Kd.R_drewN | apply Kd.R_drew)); exact HO_5.out)) (by decide) hg); replace BK570 := Aside0.mk (blk_grown (g := gb570) (o := .cells #[.int .i64 a1_0, .int .i64 a1_1] 49 (0, 0)) (bk_ BK570) hg (Kd.R_ne HO_5.out BK570.out (by decide))); replace HB := Aside0.mk (hb); have HO583 := Aside0.mk (ho); clear HO_5; clear ho hb hg hat))
      go_roundg k1
      case measure => have := HK1.out; omega
      case rel => exact ⟨(y581), (wrap64 (x7_1 + 1)), rf_, H', ⟨by have := HK1.out; omega⟩, ⟨by (with_reducible repeat (first | apply Kd.R_alloc | apply Kd.R_drewN | apply Kd.R_drew)); exact HO583.out⟩, ⟨by (with_reducible repeat (first | apply Kd.R_alloc | apply Kd.R_drewN | apply Kd.R_drew)); exact HO_6.out⟩, ⟨bk_ BK570⟩, ⟨bl_⟩⟩
     ·rw [if_neg c13] at H
      have c13b0 : (((rd_T56 l0 x7_1).f1.f0) == a1_0 && (((rd_T56 l0 x7_1).f1.f1) == a1_1)) = false := by simpa using c13
      (try (have c13b1 : decide (((rd_T56 l0 x7_1).f1.f0) = a1_0 && (((rd_T56 l0 x7_1).f1.f1) == a1_1)) = false := by simpa using c13))
      (try (have c13b2 : (((rd_T56 l0 x7_1).f1.f0) == a1_0 && (((rd_T56 l0 x7_1).f1.f1) == a1_1)) = false := by simpa using c13))
      (try (have c13b3 : ¬ (((rd_T56 l0 x7_1).f1.f0) = a1_0 && (((rd_T56 l0 x7_1).f1.f1) == a1_1)) := by simpa using c13))
      clear c13
      obtain ⟨t585, A18, H⟩ := bindE_ H
      by_cases c19 : t585 = true
      ·subst c19
       replace H := ite_t_ H
       obtain ⟨c20, H⟩ := ifn_ H
       have LMc20 := Aside0.mk c20
       clear c20
       obtain ⟨y587, hy587⟩ : ∃ y_ : List (S56), y_ = (x5_1 ++ [(⟨(rd_T56 l0 x7_1).f0, (⟨(rd_T56 l0 x7_1).f1.f0, (rd_T56 l0 x7_1).f1.f1⟩ : S49), (rd_T56 l0 x7_1).f2, (⟨(rd_T56 l0 x7_1).f3.f0, (rd_T56 l0 x7_1).f3.f1⟩ : S49), (⟨(rd_T56 l0 x7_1).f4.f0, (rd_T56 l0 x7_1).f4.f1⟩ : S49), (rd_T56 l0 x7_1).f5, (rd_T56 l0 x7_1).f6⟩ : S56)]) := ⟨_, rfl⟩
       replace H : (spec_NeededFor.l0 k1 l0 y587 t574 (wrap64 (x7_1 + 1)) a1_0 a1_1) = some r := by first | (rw [hy587]; with_reducible exact H) | (have H2_ := (Option.bind_some _ _).symm.trans H; rw [hy587]; with_reducible exact H2_) | (have H2_ := (Option.bind_some _ _).symm.trans H; with_reducible exact H2_) | with_reducible exact H | (rw [hy587]; exact H) | exact H
       have Ny587 := Aside0.mk hy587
       clear hy587
       have H' := Aside0.mk H
       clear H
       try go_wp2
       replace HO_5 := Aside0.mk (Kd.R_drew HO_5.out)
       replace HO_6 := Aside0.mk (Kd.R_drew HO_6.out)
       replace BK570 := Aside0.mk (blk_drew BK570.out)
       replace HB := Aside0.mk (below_drew1 HB.out)
       have p577 : 0 ≤ (x7_1 : Int) := od_
       have q577 : x7_1 < (l0.length : Int) := od_
       obtain ⟨ad577, e577, hx577_0, hx577_1, hx577_2, hx577_3, hx577_4, hx577_5, hx577_6, hx577_7, hx577_8, hx577_9⟩ := at_T56 HR0.out x7_1 p577 q577
       have hw577_9 := hx577_9
       have hw577_8 := hx577_8
       have hw577_7 := hx577_7
       have hw577_6 := hx577_6
       have hw577_5 := hx577_5
       have hw577_4 := hx577_4
       have hw577_3 := hx577_3
       have hw577_2 := hx577_2
       have hw577_1 := hx577_1
       have hw577_0 := hx577_0
       cases e577
       replace hx577_0 := cb_ HB hx577_0
       replace hx577_1 := cb_ HB hx577_1
       replace hx577_2 := cb_ HB hx577_2
       replace hx577_3 := cb_ HB hx577_3
       replace hx577_4 := cb_ HB hx577_4
       replace hx577_5 := cb_ HB hx577_5
       replace hx577_6 := cb_ HB hx577_6
       replace hx577_7 := cb_ HB hx577_7
       replace hx577_8 := cb_ HB hx577_8
       replace hx577_9 := cb_ HB hx577_9
       replace p577 := eq_true p577
       replace q577 := eq_true q577
       have p579 : 0 ≤ (x7_1 : Int) := od_
       have q579 : x7_1 < (l0.length : Int) := od_
       obtain ⟨ad579, e579, hx579_0, hx579_1, hx579_2, hx579_3, hx579_4, hx579_5, hx579_6, hx579_7, hx579_8, hx579_9⟩ := at_T56 HR0.out x7_1 p579 q579
       have hw579_9 := hx579_9
       have hw579_8 := hx579_8
       have hw579_7 := hx579_7
       have hw579_6 := hx579_6
       have hw579_5 := hx579_5
       have hw579_4 := hx579_4
       have hw579_3 := hx579_3
       have hw579_2 := hx579_2
       have hw579_1 := hx579_1
       have hw579_0 := hx579_0
       obtain rfl : ad577 = ad579 := (by injection e579)
       replace hx579_0 := cb_ HB hx579_0
       replace hx579_1 := cb_ HB hx579_1
       replace hx579_2 := cb_ HB hx579_2
       replace hx579_3 := cb_ HB hx579_3
       replace hx579_4 := cb_ HB hx579_4
       replace hx579_5 := cb_ HB hx579_5
       replace hx579_6 := cb_ HB hx579_6
       replace hx579_7 := cb_ HB hx579_7
       replace hx579_8 := cb_ HB hx579_8
       replace hx579_9 := cb_ HB hx579_9
       replace p579 := eq_true p579
       replace q579 := eq_true q579
       have p584 : 0 ≤ (x7_1 : Int) := od_
       have q584 : x7_1 < (l0.length : Int) := od_
       obtain ⟨ad584, e584, hx584_0, hx584_1, hx584_2, hx584_3, hx584_4, hx584_5, hx584_6, hx584_7, hx584_8, hx584_9⟩ := at_T56 HR0.out x7_1 p584 q584
       have hw584_9 := hx584_9
       have hw584_8 := hx584_8
       have hw584_7 := hx584_7
       have hw584_6 := hx584_6
       have hw584_5 := hx584_5
       have hw584_4 := hx584_4
       have hw584_3 := hx584_3
       have hw584_2 := hx584_2
       have hw584_1 := hx584_1
       have hw584_0 := hx584_0
       obtain rfl : ad577 = ad584 := (by injection e584)
       replace hx584_0 := cb_ HB hx584_0
       replace hx584_1 := cb_ HB hx584_1
       replace hx584_2 := cb_ HB hx584_2
       replace hx584_3 := cb_ HB hx584_3
       replace hx584_4 := cb_ HB hx584_4
       replace hx584_5 := cb_ HB hx584_5
       replace hx584_6 := cb_ HB hx584_6
       replace hx584_7 := cb_ HB hx584_7
       replace hx584_8 := cb_ HB hx584_8
       replace hx584_9 := cb_ HB hx584_9
       replace p584 := eq_true p584
       replace q584 := eq_true q584
       refine start_ (n := 23) (S := fun w' => w'.cell? ⟨gb570, 0, none⟩ = some (.int .i64 a1_0) ∧ w'.cell? ⟨gb570, 1, none⟩ = some (.int .i64 a1_1) ∧ w'.cell? (ad577.add ((x7_1).toNat * 10)) = some (.int .i64 ((rd_T56 l0 x7_1).f0)) ∧ w'.cell? ⟨(ad577.add ((x7_1).toNat * 10)).block, (ad577.add ((x7_1).toNat * 10)).off + 1, none⟩ = some (.int .i64 ((rd_T56 l0 x7_1).f1.f0)) ∧ w'.cell? ⟨(ad577.add ((x7_1).toNat * 10)).block, (ad577.add ((x7_1).toNat * 10)).off + 2, none⟩ = some (.int .i64 ((rd_T56 l0 x7_1).f1.f1)) ∧ w'.cell? ⟨(ad577.add ((x7_1).toNat * 10)).block, (ad577.add ((x7_1).toNat * 10)).off + 3, none⟩ = some (.int .i64 ((rd_T56 l0 x7_1).f2)) ∧ w'.cell? ⟨(ad577.add ((x7_1).toNat * 10)).block, (ad577.add ((x7_1).toNat * 10)).off + 4, none⟩ = some (.int .i64 ((rd_T56 l0 x7_1).f3.f0)) ∧ w'.cell? ⟨(ad577.add ((x7_1).toNat * 10)).block, (ad577.add ((x7_1).toNat * 10)).off + 5, none⟩ = some (.int .i64 ((rd_T56 l0 x7_1).f3.f1)) ∧ w'.cell? ⟨(ad577.add ((x7_1).toNat * 10)).block, (ad577.add ((x7_1).toNat * 10)).off + 6, none⟩ = some (.int .i64 ((rd_T56 l0 x7_1).f4.f0)) ∧ w'.cell? ⟨(ad577.add ((x7_1).toNat * 10)).block, (ad577.add ((x7_1).toNat * 10)).off + 7, none⟩ = some (.int .i64 ((rd_T56 l0 x7_1).f4.f1)) ∧ w'.cell? ⟨(ad577.add ((x7_1).toNat * 10)).block, (ad577.add ((x7_1).toNat * 10)).off + 8, none⟩ = some (.int .i64 ((rd_T56 l0 x7_1).f5)) ∧ w'.cell? ⟨(ad577.add ((x7_1).toNat * 10)).block, (ad577.add ((x7_1).toNat * 10)).off + 9, none⟩ = some (.int .i64 ((rd_T56 l0 x7_1).f6)) ∧ w'.cell? (ad577.add ((x7_1).toNat * 10)) = some (.int .i64 ((rd_T56 l0 x7_1).f0)) ∧ w'.cell? ⟨(ad577.add ((x7_1).toNat * 10)).block, (ad577.add ((x7_1).toNat * 10)).off + 1, none⟩ = some (.int .i64 ((rd_T56 l0 x7_1).f1.f0)) ∧ w'.cell? ⟨(ad577.add ((x7_1).toNat * 10)).block, (ad577.add ((x7_1).toNat * 10)).off + 2, none⟩ = some (.int .i64 ((rd_T56 l0 x7_1).f1.f1)) ∧ w'.cell? ⟨(ad577.add ((x7_1).toNat * 10)).block, (ad577.add ((x7_1).toNat * 10)).off + 3, none⟩ = some (.int .i64 ((rd_T56 l0 x7_1).f2)) ∧ w'.cell? ⟨(ad577.add ((x7_1).toNat * 10)).block, (ad577.add ((x7_1).toNat * 10)).off + 4, none⟩ = some (.int .i64 ((rd_T56 l0 x7_1).f3.f0)) ∧ w'.cell? ⟨(ad577.add ((x7_1).toNat * 10)).block, (ad577.add ((x7_1).toNat * 10)).off + 5, none⟩ = some (.int .i64 ((rd_T56 l0 x7_1).f3.f1)) ∧ w'.cell? ⟨(ad577.add ((x7_1).toNat * 10)).block, (ad577.add ((x7_1).toNat * 10)).off + 6, none⟩ = some (.int .i64 ((rd_T56 l0 x7_1).f4.f0)) ∧ w'.cell? ⟨(ad577.add ((x7_1).toNat * 10)).block, (ad577.add ((x7_1).toNat * 10)).off + 7, none⟩ = some (.int .i64 ((rd_T56 l0 x7_1).f4.f1)) ∧ w'.cell? ⟨(ad577.add ((x7_1).toNat * 10)).block, (ad577.add ((x7_1).toNat * 10)).off + 8, none⟩ = some (.int .i64 ((rd_T56 l0 x7_1).f5)) ∧ w'.cell? ⟨(ad577.add ((x7_1).toNat * 10)).block, (ad577.add ((x7_1).toNat * 10)).off + 9, none⟩ = some (.int .i64 ((rd_T56 l0 x7_1).f6)) ∧ w'.cell? (ad577.add ((x7_1).toNat * 10)) = some (.int .i64 ((rd_T56 l0 x7_1).f0)) ∧ w'.cell? ⟨(ad577.add ((x7_1).toNat * 10)).block, (ad577.add ((x7_1).toNat * 10)).off + 1, none⟩ = some (.int .i64 ((rd_T56 l0 x7_1).f1.f0)) ∧ w'.cell? ⟨(ad577.add ((x7_1).toNat * 10)).block, (ad577.add ((x7_1).toNat * 10)).off + 2, none⟩ = some (.int .i64 ((rd_T56 l0 x7_1).f1.f1)) ∧ w'.cell? ⟨(ad577.add ((x7_1).toNat * 10)).block, (ad577.add ((x7_1).toNat * 10)).off + 3, none⟩ = some (.int .i64 ((rd_T56 l0 x7_1).f2)) ∧ w'.cell? ⟨(ad577.add ((x7_1).toNat * 10)).block, (ad577.add ((x7_1).toNat * 10)).off + 4, none⟩ = some (.int .i64 ((rd_T56 l0 x7_1).f3.f0)) ∧ w'.cell? ⟨(ad577.add ((x7_1).toNat * 10)).block, (ad577.add ((x7_1).toNat * 10)).off + 5, none⟩ = some (.int .i64 ((rd_T56 l0 x7_1).f3.f1)) ∧ w'.cell? ⟨(ad577.add ((x7_1).toNat * 10)).block, (ad577.add ((x7_1).toNat * 10)).off + 6, none⟩ = some (.int .i64 ((rd_T56 l0 x7_1).f4.f0)) ∧ w'.cell? ⟨(ad577.add ((x7_1).toNat * 10)).block, (ad577.add ((x7_1).toNat * 10)).off + 7, none⟩ = some (.int .i64 ((rd_T56 l0 x7_1).f4.f1)) ∧ w'.cell? ⟨(ad577.add ((x7_1).toNat * 10)).block, (ad577.add ((x7_1).toNat * 10)).off + 8, none⟩ = some (.int .i64 ((rd_T56 l0 x7_1).f5)) ∧ w'.cell? ⟨(ad577.add ((x7_1).toNat * 10)).block, (ad577.add ((x7_1).toNat * 10)).off + 9, none⟩ = some (.int .i64 ((rd_T56 l0 x7_1).f6))) (ds := []) #[false, false, false, false, false, false, false, false, false, false, false, false, false, false, false, false, false, false, false, false, false, false, false] (by kernel_rfl) rfl rfl ⟨(blk_cell BK570.out 0).trans rfl, (blk_cell BK570.out 1).trans rfl, ((HB.out.cell (World.block_lt_of_cell? w _ hw577_0)).trans hw577_0), ((HB.out.cell (World.block_lt_of_cell? w _ hw577_1)).trans hw577_1), ((HB.out.cell (World.block_lt_of_cell? w _ hw577_2)).trans hw577_2), ((HB.out.cell (World.block_lt_of_cell? w _ hw577_3)).trans hw577_3), ((HB.out.cell (World.block_lt_of_cell? w _ hw577_4)).trans hw577_4), ((HB.out.cell (World.block_lt_of_cell? w _ hw577_5)).trans hw577_5), ((HB.out.cell (World.block_lt_of_cell? w _ hw577_6)).trans hw577_6), ((HB.out.cell (World.block_lt_of_cell? w _ hw577_7)).trans hw577_7), ((HB.out.cell (World.block_lt_of_cell? w _ hw577_8)).trans hw577_8), ((HB.out.cell (World.block_lt_of_cell? w _ hw577_9)).trans hw577_9), ((HB.out.cell (World.block_lt_of_cell? w _ hw579_0)).trans hw579_0), ((HB.out.cell (World.block_lt_of_cell? w _ hw579_1)).trans hw579_1), ((HB.out.cell (World.block_lt_of_cell? w _ hw579_2)).trans hw579_2), ((HB.out.cell (World.block_lt_of_cell? w _ hw579_3)).trans hw579_3), ((HB.out.cell (World.block_lt_of_cell? w _ hw579_4)).trans hw579_4), ((HB.out.cell (World.block_lt_of_cell? w _ hw579_5)).trans hw579_5), ((HB.out.cell (World.block_lt_of_cell? w _ hw579_6)).trans hw579_6), ((HB.out.cell (World.block_lt_of_cell? w _ hw579_7)).trans hw579_7), ((HB.out.cell (World.block_lt_of_cell? w _ hw579_8)).trans hw579_8), ((HB.out.cell (World.block_lt_of_cell? w _ hw579_9)).trans hw579_9), ((HB.out.cell (World.block_lt_of_cell? w _ hw584_0)).trans hw584_0), ((HB.out.cell (World.block_lt_of_cell? w _ hw584_1)).trans hw584_1), ((HB.out.cell (World.block_lt_of_cell? w _ hw584_2)).trans hw584_2), ((HB.out.cell (World.block_lt_of_cell? w _ hw584_3)).trans hw584_3), ((HB.out.cell (World.block_lt_of_cell? w _ hw584_4)).trans hw584_4), ((HB.out.cell (World.block_lt_of_cell? w _ hw584_5)).trans hw584_5), ((HB.out.cell (World.block_lt_of_cell? w _ hw584_6)).trans hw584_6), ((HB.out.cell (World.block_lt_of_cell? w _ hw584_7)).trans hw584_7), ((HB.out.cell (World.block_lt_of_cell? w _ hw584_8)).trans hw584_8), ((HB.out.cell (World.block_lt_of_cell? w _ hw584_9)).trans hw584_9)⟩ (fun hHeld => ?_); refine with_tabW spec_NeededFor.tab6 spec_NeededFor.bits6 (fun HT_ HW_ => ?_)
       generalize wr.drew = w21 at HO_5 HO_6 BK570 HB hx577_0 hx577_1 hx577_2 hx577_3 hx577_4 hx577_5 hx577_6 hx577_7 hx577_8 hx577_9 hx579_0 hx579_1 hx579_2 hx579_3 hx579_4 hx579_5 hx579_6 hx579_7 hx579_8 hx579_9 hx584_0 hx584_1 hx584_2 hx584_3 hx584_4 hx584_5 hx584_6 hx584_7 hx584_8 hx584_9 hHeld ⊢
       refine pureZ_ (i := 0) (some 18) #[true, false, false, false, false, false, false, false, false, false, false, false, false, false, false, false, false, false, false, false, false, false, false] (any_of HT_.out (by kernel_rfl)) ?_
       refine pureZ_ (i := 1) (some 19) #[true, true, false, false, false, false, false, false, false, false, false, false, false, false, false, false, false, false, false, false, false, false, false] (any_of HT_.out (by kernel_rfl)) ?_
       refine pureZ_ (i := 2) (some 20) #[true, true, true, false, false, false, false, false, false, false, false, false, false, false, false, false, false, false, false, false, false, false, false] (any_of HT_.out (by kernel_rfl)) ?_
       refine takeZ_ (i := 3) (some 21) #[true, true, true, true, false, false, false, false, false, false, false, false, false, false, false, false, false, false, false, false, false, false, false] (take_ofW HT_.out HW_.out (by kernel_rfl)) hHeld ?_
       refine one_ (i := 4) (N := some 22) #[true, true, true, true, true, false, false, false, false, false, false, false, false, false, false, false, false, false, false, false, false, false, false] rfl rfl (one_of HT_.out (by kernel_rfl)) (by decide) (fun K hK => ?_)
       refine goes_ Try.func94 (by kernel_rfl) rfl #[.agg #[.int .i64 ((rd_T56 l0 x7_1).f0), .int .i64 ((rd_T56 l0 x7_1).f1.f0), .int .i64 ((rd_T56 l0 x7_1).f1.f1), .int .i64 ((rd_T56 l0 x7_1).f2), .int .i64 ((rd_T56 l0 x7_1).f3.f0), .int .i64 ((rd_T56 l0 x7_1).f3.f1), .int .i64 ((rd_T56 l0 x7_1).f4.f0), .int .i64 ((rd_T56 l0 x7_1).f4.f1), .int .i64 ((rd_T56 l0 x7_1).f5), .int .i64 ((rd_T56 l0 x7_1).f6)]] (by rfl) rfl rfl (by (try simp only [List.map_toArray, List.map_cons, List.map_nil]); first | done | rfl | (simp only [List.length_drop, List.length_take]; rfl)) ?_
       with_reducible refine (spec_CredOk.calls k1 ((rd_T56 l0 x7_1).f0) ((rd_T56 l0 x7_1).f1.f0) ((rd_T56 l0 x7_1).f1.f1) ((rd_T56 l0 x7_1).f2) ((rd_T56 l0 x7_1).f3.f0) ((rd_T56 l0 x7_1).f3.f1) ((rd_T56 l0 x7_1).f4.f0) ((rd_T56 l0 x7_1).f4.f1) ((rd_T56 l0 x7_1).f5) ((rd_T56 l0 x7_1).f6) true _ A11.out).mono ?_
       rintro e w22 ⟨rfl, hb⟩
       refine ⟨_, rfl, ?_⟩
       replace HO_5 := hob_ HO_5 hb
       replace HO_6 := hob_ HO_6 hb
       replace BK570 := bkb_ BK570 hb
       replace HB := hbs_ hb
       (try clear hb)
       (try clear hb2)
       (try clear hk)
       (try clear hi)
       obtain ⟨Ao23, co23, eo23⟩ := Kd.R_slice HO_6.out
       (first | subst eo23 | (injection eo23 with f1_ f2_ f3_; have f4_ := f1_.symm; have f5_ := f3_.symm; clear f1_ f2_ f3_; subst f4_; subst f5_))
       refine hK.out _ _ ⟨(blk_cell BK570.out 0).trans rfl, (blk_cell BK570.out 1).trans rfl, ((HB.out.cell (World.block_lt_of_cell? w _ hw577_0)).trans hw577_0), ((HB.out.cell (World.block_lt_of_cell? w _ hw577_1)).trans hw577_1), ((HB.out.cell (World.block_lt_of_cell? w _ hw577_2)).trans hw577_2), ((HB.out.cell (World.block_lt_of_cell? w _ hw577_3)).trans hw577_3), ((HB.out.cell (World.block_lt_of_cell? w _ hw577_4)).trans hw577_4), ((HB.out.cell (World.block_lt_of_cell? w _ hw577_5)).trans hw577_5), ((HB.out.cell (World.block_lt_of_cell? w _ hw577_6)).trans hw577_6), ((HB.out.cell (World.block_lt_of_cell? w _ hw577_7)).trans hw577_7), ((HB.out.cell (World.block_lt_of_cell? w _ hw577_8)).trans hw577_8), ((HB.out.cell (World.block_lt_of_cell? w _ hw577_9)).trans hw577_9), ((HB.out.cell (World.block_lt_of_cell? w _ hw579_0)).trans hw579_0), ((HB.out.cell (World.block_lt_of_cell? w _ hw579_1)).trans hw579_1), ((HB.out.cell (World.block_lt_of_cell? w _ hw579_2)).trans hw579_2), ((HB.out.cell (World.block_lt_of_cell? w _ hw579_3)).trans hw579_3), ((HB.out.cell (World.block_lt_of_cell? w _ hw579_4)).trans hw579_4), ((HB.out.cell (World.block_lt_of_cell? w _ hw579_5)).trans hw579_5), ((HB.out.cell (World.block_lt_of_cell? w _ hw579_6)).trans hw579_6), ((HB.out.cell (World.block_lt_of_cell? w _ hw579_7)).trans hw579_7), ((HB.out.cell (World.block_lt_of_cell? w _ hw579_8)).trans hw579_8), ((HB.out.cell (World.block_lt_of_cell? w _ hw579_9)).trans hw579_9), ((HB.out.cell (World.block_lt_of_cell? w _ hw584_0)).trans hw584_0), ((HB.out.cell (World.block_lt_of_cell? w _ hw584_1)).trans hw584_1), ((HB.out.cell (World.block_lt_of_cell? w _ hw584_2)).trans hw584_2), ((HB.out.cell (World.block_lt_of_cell? w _ hw584_3)).trans hw584_3), ((HB.out.cell (World.block_lt_of_cell? w _ hw584_4)).trans hw584_4), ((HB.out.cell (World.block_lt_of_cell? w _ hw584_5)).trans hw584_5), ((HB.out.cell (World.block_lt_of_cell? w _ hw584_6)).trans hw584_6), ((HB.out.cell (World.block_lt_of_cell? w _ hw584_7)).trans hw584_7), ((HB.out.cell (World.block_lt_of_cell? w _ hw584_8)).trans hw584_8), ((HB.out.cell (World.block_lt_of_cell? w _ hw584_9)).trans hw584_9)⟩ (fun hHeld => ?_)
       clear hK K
       refine norm_ (a' := ?_) ?_ ?_
       rotate_left
       ·show Act.put _ (some 22) _ = _
        simp only [Act.put, List.setIfInBounds_toArray, List.set_cons_zero, List.set_cons_succ, i64_w, i32_w]
        rfl
       refine pureZ_ (i := 5) (some 23) #[true, true, true, true, true, true, false, false, false, false, false, false, false, false, false, false, false, false, false, false, false, false, false] (any_of HT_.out (by kernel_rfl)) ?_
       refine pureZ_ (i := 6) (some 24) #[true, true, true, true, true, true, true, false, false, false, false, false, false, false, false, false, false, false, false, false, false, false, false] (any_of HT_.out (by kernel_rfl)) ?_
       refine pureZ_ (i := 7) (some 25) #[true, true, true, true, true, true, true, true, false, false, false, false, false, false, false, false, false, false, false, false, false, false, false] (any_of HT_.out (by kernel_rfl)) ?_
       refine pureZ_ (i := 8) (some 26) #[true, true, true, true, true, true, true, true, true, false, false, false, false, false, false, false, false, false, false, false, false, false, false] (any_of HT_.out (by kernel_rfl)) ?_
       refine pureZ_ (i := 9) (some 27) #[true, true, true, true, true, true, true, true, true, true, false, false, false, false, false, false, false, false, false, false, false, false, false] (any_of HT_.out (by kernel_rfl)) ?_
       refine takeZ_ (i := 10) (some 28) #[true, true, true, true, true, true, true, true, true, true, true, false, false, false, false, false, false, false, false, false, false, false, false] (take_ofW HT_.out HW_.out (by kernel_rfl)) hHeld ?_
       refine takeZ_ (i := 11) (some 29) #[true, true, true, true, true, true, true, true, true, true, true, true, false, false, false, false, false, false, false, false, false, false, false] (take_ofW HT_.out HW_.out (by kernel_rfl)) hHeld ?_
       refine pureZ_ (i := 12) (some 30) #[true, true, true, true, true, true, true, true, true, true, true, true, true, false, false, false, false, false, false, false, false, false, false] (any_of HT_.out (by kernel_rfl)) ?_
       refine pureZ_ (i := 13) (some 31) #[true, true, true, true, true, true, true, true, true, true, true, true, true, true, false, false, false, false, false, false, false, false, false] (any_of HT_.out (by kernel_rfl)) ?_
       refine pureZ_ (i := 14) (some 32) #[true, true, true, true, true, true, true, true, true, true, true, true, true, true, true, false, false, false, false, false, false, false, false] (any_of HT_.out (by kernel_rfl)) ?_
       refine pureZ_ (i := 15) (some 33) #[true, true, true, true, true, true, true, true, true, true, true, true, true, true, true, true, false, false, false, false, false, false, false] (any_of HT_.out (by kernel_rfl)) ?_
       refine pureZ_ (i := 16) (some 34) #[true, true, true, true, true, true, true, true, true, true, true, true, true, true, true, true, true, false, false, false, false, false, false] (any_of HT_.out (by kernel_rfl)) ?_
       refine pureZ_ (i := 17) (some 35) #[true, true, true, true, true, true, true, true, true, true, true, true, true, true, true, true, true, true, false, false, false, false, false] (any_of HT_.out (by kernel_rfl)) ?_
       refine pureZ_ (i := 18) (some 36) #[true, true, true, true, true, true, true, true, true, true, true, true, true, true, true, true, true, true, true, false, false, false, false] (any_of HT_.out (by kernel_rfl)) ?_
       refine takeZ_ (i := 19) (some 37) #[true, true, true, true, true, true, true, true, true, true, true, true, true, true, true, true, true, true, true, true, false, false, false] (take_ofW HT_.out HW_.out (by kernel_rfl)) hHeld ?_
       refine one_ (i := 20) (N := some 38) #[true, true, true, true, true, true, true, true, true, true, true, true, true, true, true, true, true, true, true, true, true, false, false] rfl rfl (one_of HT_.out (by kernel_rfl)) (by decide) (fun K hK => ?_)
       refine goes_ Try.func136 (by kernel_rfl) rfl #[.slice Ao23 t574.length co23, .agg #[.int .i64 ((rd_T56 l0 x7_1).f1.f0), .int .i64 ((rd_T56 l0 x7_1).f1.f1)]] (by rfl) rfl rfl (by (try simp only [List.map_toArray, List.map_cons, List.map_nil]); first | done | rfl | (simp only [List.length_drop, List.length_take]; rfl)) ?_
       with_reducible refine (spec_l13Done.calls k1 _ _ t574 ((rd_T56 l0 x7_1).f1.f0) ((rd_T56 l0 x7_1).f1.f1) true _ ?side1 ?side2 A18.out).mono ?_
       (case side1 => repeat (first | exact (Kd.R_reads' HO_6.out).2.2 | (with_reducible refine Kd.C_alloc ?_ _) | (with_reducible refine Kd.C_drewN ?_ _) | (with_reducible refine Kd.C_drew ?_)))
       (case side2 => exact (Kd.R_reads' HO_6.out).2.1)
       rintro e w24 ⟨rfl, hb⟩
       refine ⟨_, rfl, ?_⟩
       replace HO_5 := hob_ HO_5 hb
       replace HO_6 := hob_ HO_6 hb
       replace BK570 := bkb_ BK570 hb
       replace HB := hbs_ hb
       (try clear hb)
       (try clear hb2)
       (try clear hk)
       (try clear hi)
       refine hK.out _ _ ⟨(blk_cell BK570.out 0).trans rfl, (blk_cell BK570.out 1).trans rfl, ((HB.out.cell (World.block_lt_of_cell? w _ hw577_0)).trans hw577_0), ((HB.out.cell (World.block_lt_of_cell? w _ hw577_1)).trans hw577_1), ((HB.out.cell (World.block_lt_of_cell? w _ hw577_2)).trans hw577_2), ((HB.out.cell (World.block_lt_of_cell? w _ hw577_3)).trans hw577_3), ((HB.out.cell (World.block_lt_of_cell? w _ hw577_4)).trans hw577_4), ((HB.out.cell (World.block_lt_of_cell? w _ hw577_5)).trans hw577_5), ((HB.out.cell (World.block_lt_of_cell? w _ hw577_6)).trans hw577_6), ((HB.out.cell (World.block_lt_of_cell? w _ hw577_7)).trans hw577_7), ((HB.out.cell (World.block_lt_of_cell? w _ hw577_8)).trans hw577_8), ((HB.out.cell (World.block_lt_of_cell? w _ hw577_9)).trans hw577_9), ((HB.out.cell (World.block_lt_of_cell? w _ hw579_0)).trans hw579_0), ((HB.out.cell (World.block_lt_of_cell? w _ hw579_1)).trans hw579_1), ((HB.out.cell (World.block_lt_of_cell? w _ hw579_2)).trans hw579_2), ((HB.out.cell (World.block_lt_of_cell? w _ hw579_3)).trans hw579_3), ((HB.out.cell (World.block_lt_of_cell? w _ hw579_4)).trans hw579_4), ((HB.out.cell (World.block_lt_of_cell? w _ hw579_5)).trans hw579_5), ((HB.out.cell (World.block_lt_of_cell? w _ hw579_6)).trans hw579_6), ((HB.out.cell (World.block_lt_of_cell? w _ hw579_7)).trans hw579_7), ((HB.out.cell (World.block_lt_of_cell? w _ hw579_8)).trans hw579_8), ((HB.out.cell (World.block_lt_of_cell? w _ hw579_9)).trans hw579_9), ((HB.out.cell (World.block_lt_of_cell? w _ hw584_0)).trans hw584_0), ((HB.out.cell (World.block_lt_of_cell? w _ hw584_1)).trans hw584_1), ((HB.out.cell (World.block_lt_of_cell? w _ hw584_2)).trans hw584_2), ((HB.out.cell (World.block_lt_of_cell? w _ hw584_3)).trans hw584_3), ((HB.out.cell (World.block_lt_of_cell? w _ hw584_4)).trans hw584_4), ((HB.out.cell (World.block_lt_of_cell? w _ hw584_5)).trans hw584_5), ((HB.out.cell (World.block_lt_of_cell? w _ hw584_6)).trans hw584_6), ((HB.out.cell (World.block_lt_of_cell? w _ hw584_7)).trans hw584_7), ((HB.out.cell (World.block_lt_of_cell? w _ hw584_8)).trans hw584_8), ((HB.out.cell (World.block_lt_of_cell? w _ hw584_9)).trans hw584_9)⟩ (fun hHeld => ?_)
       clear hK K
       refine norm_ (a' := ?_) ?_ ?_
       rotate_left
       ·show Act.put _ (some 38) _ = _
        simp only [Act.put, List.setIfInBounds_toArray, List.set_cons_zero, List.set_cons_succ, i64_w, i32_w]
        rfl
       refine pureZ_ (i := 21) (some 39) #[true, true, true, true, true, true, true, true, true, true, true, true, true, true, true, true, true, true, true, true, true, true, false] (any_of HT_.out (by kernel_rfl)) ?_
       refine pureZ_ (i := 22) (some 40) #[true, true, true, true, true, true, true, true, true, true, true, true, true, true, true, true, true, true, true, true, true, true, true] (any_of HT_.out (by kernel_rfl)) ?_
       refine done_ (done_of HT_.out (by kernel_rfl)) ?_
       have p586 : 0 ≤ (x7_1 : Int) := od_
       have q586 : x7_1 < (l0.length : Int) := od_
       obtain ⟨ad586, e586, hx586_0, hx586_1, hx586_2, hx586_3, hx586_4, hx586_5, hx586_6, hx586_7, hx586_8, hx586_9⟩ := at_T56 HR0.out x7_1 p586 q586
       obtain rfl : ad577 = ad586 := (by injection e586)
       replace hx586_0 := cb_ HB hx586_0
       replace hx586_1 := cb_ HB hx586_1
       replace hx586_2 := cb_ HB hx586_2
       replace hx586_3 := cb_ HB hx586_3
       replace hx586_4 := cb_ HB hx586_4
       replace hx586_5 := cb_ HB hx586_5
       replace hx586_6 := cb_ HB hx586_6
       replace hx586_7 := cb_ HB hx586_7
       replace hx586_8 := cb_ HB hx586_8
       replace hx586_9 := cb_ HB hx586_9
       replace p586 := eq_true p586
       replace q586 := eq_true q586
       try go_wp2_with (first | ((with_reducible refine gate_builtin (b := .append) (xs := #[.tmp 41, .tmp 46]) rfl ?_); at_builtin; refine Kd.R_append k56 (w0 := w) w.heap.size rfl (.tmp 41) (.tmp 46) 32 56 (.agg #[(.int .i64 0), (.int .i64 0), (.int .i64 0), (.int .i64 0), (.int .i64 0), (.int .i64 0), (.int .i64 0), (.int .i64 0), (.int .i64 0), (.int .i64 0)]) 80 rfl Try.underlying32 info56 rfl (by decide) (by omega) u5 x5_1 (⟨(rd_T56 l0 x7_1).f0, (⟨(rd_T56 l0 x7_1).f1.f0, (rd_T56 l0 x7_1).f1.f1⟩ : S49), (rd_T56 l0 x7_1).f2, (⟨(rd_T56 l0 x7_1).f3.f0, (rd_T56 l0 x7_1).f3.f1⟩ : S49), (⟨(rd_T56 l0 x7_1).f4.f0, (rd_T56 l0 x7_1).f4.f1⟩ : S49), (rd_T56 l0 x7_1).f5, (rd_T56 l0 x7_1).f6⟩ : S56) [.int .i64 ((rd_T56 l0 x7_1).f0), .int .i64 ((rd_T56 l0 x7_1).f1.f0), .int .i64 ((rd_T56 l0 x7_1).f1.f1), .int .i64 ((rd_T56 l0 x7_1).f2), .int .i64 ((rd_T56 l0 x7_1).f3.f0), .int .i64 ((rd_T56 l0 x7_1).f3.f1), .int .i64 ((rd_T56 l0 x7_1).f4.f0), .int .i64 ((rd_T56 l0 x7_1).f4.f1), .int .i64 ((rd_T56 l0 x7_1).f5), .int .i64 ((rd_T56 l0 x7_1).f6)] (fun _ => True) (fun _ => False) rfl rfl ?aP (fun _ hk => hk.elim) ?aF ?aO ?aB ?aS ?aL ?_; (case aP => exact k56_mkM _ _ _ (⟨(rd_T56 l0 x7_1).f0, (⟨(rd_T56 l0 x7_1).f1.f0, (rd_T56 l0 x7_1).f1.f1⟩ : S49), (rd_T56 l0 x7_1).f2, (⟨(rd_T56 l0 x7_1).f3.f0, (rd_T56 l0 x7_1).f3.f1⟩ : S49), (⟨(rd_T56 l0 x7_1).f4.f0, (rd_T56 l0 x7_1).f4.f1⟩ : S49), (rd_T56 l0 x7_1).f5, (rd_T56 l0 x7_1).f6⟩ : S56)); (case aB => exact bl_); (case aF => exact (fun _ _ => trivial)); (case aO => exact (by (with_reducible repeat (first | apply Kd.R_alloc | apply Kd.R_drewN | apply Kd.R_drew)); exact HO_5.out)); (case aS => exact bls_); (case aL => have := LMc20.out; omega); intro v588 w25 ho hb hg hat; rw [← Ny587.out] at ho; replace HO_6 := Aside0.mk (Kd.R_over' (by (with_reducible repeat (first | apply Kd.R_alloc | apply Kd.R_drewN | apply Kd.R_drew)); exact HO_6.out) (Kd.R_typed (by (with_reducible repeat (first | apply Kd.R_alloc | apply Kd.R_drewN | apply Kd.R_drew)); exact HO_5.out)) (by decide) hg); replace BK570 := Aside0.mk (blk_grown (g := gb570) (o := .cells #[.int .i64 a1_0, .int .i64 a1_1] 49 (0, 0)) (bk_ BK570) hg (Kd.R_ne HO_5.out BK570.out (by decide))); replace HB := Aside0.mk (hb); have HO589 := Aside0.mk (ho); clear HO_5; clear ho hb hg hat))
       go_roundg k1
       case measure => have := HK1.out; omega
       case rel => exact ⟨(y587), (wrap64 (x7_1 + 1)), rf_, H', ⟨by have := HK1.out; omega⟩, ⟨by (with_reducible repeat (first | apply Kd.R_alloc | apply Kd.R_drewN | apply Kd.R_drew)); exact HO589.out⟩, ⟨by (with_reducible repeat (first | apply Kd.R_alloc | apply Kd.R_drewN | apply Kd.R_drew)); exact HO_6.out⟩, ⟨bk_ BK570⟩, ⟨bl_⟩⟩
      ·replace c19 := Bool.eq_false_iff.mpr c19
       subst c19
       replace H := ite_f_ H
       have H' := Aside0.mk H
       clear H
       try go_wp2
       replace HO_5 := Aside0.mk (Kd.R_drew HO_5.out)
       replace HO_6 := Aside0.mk (Kd.R_drew HO_6.out)
       replace BK570 := Aside0.mk (blk_drew BK570.out)
       replace HB := Aside0.mk (below_drew1 HB.out)
       have p577 : 0 ≤ (x7_1 : Int) := od_
       have q577 : x7_1 < (l0.length : Int) := od_
       obtain ⟨ad577, e577, hx577_0, hx577_1, hx577_2, hx577_3, hx577_4, hx577_5, hx577_6, hx577_7, hx577_8, hx577_9⟩ := at_T56 HR0.out x7_1 p577 q577
       have hw577_9 := hx577_9
       have hw577_8 := hx577_8
       have hw577_7 := hx577_7
       have hw577_6 := hx577_6
       have hw577_5 := hx577_5
       have hw577_4 := hx577_4
       have hw577_3 := hx577_3
       have hw577_2 := hx577_2
       have hw577_1 := hx577_1
       have hw577_0 := hx577_0
       cases e577
       replace hx577_0 := cb_ HB hx577_0
       replace hx577_1 := cb_ HB hx577_1
       replace hx577_2 := cb_ HB hx577_2
       replace hx577_3 := cb_ HB hx577_3
       replace hx577_4 := cb_ HB hx577_4
       replace hx577_5 := cb_ HB hx577_5
       replace hx577_6 := cb_ HB hx577_6
       replace hx577_7 := cb_ HB hx577_7
       replace hx577_8 := cb_ HB hx577_8
       replace hx577_9 := cb_ HB hx577_9
       replace p577 := eq_true p577
       replace q577 := eq_true q577
       have p579 : 0 ≤ (x7_1 : Int) := od_
       have q579 : x7_1 < (l0.length : Int) := od_
       obtain ⟨ad579, e579, hx579_0, hx579_1, hx579_2, hx579_3, hx579_4, hx579_5, hx579_6, hx579_7, hx579_8, hx579_9⟩ := at_T56 HR0.out x7_1 p579 q579
       have hw579_9 := hx579_9
       have hw579_8 := hx579_8
       have hw579_7 := hx579_7
       have hw579_6 := hx579_6
       have hw579_5 := hx579_5
       have hw579_4 := hx579_4
       have hw579_3 := hx579_3
       have hw579_2 := hx579_2
       have hw579_1 := hx579_1
       have hw579_0 := hx579_0
       obtain rfl : ad577 = ad579 := (by injection e579)
       replace hx579_0 := cb_ HB hx579_0
       replace hx579_1 := cb_ HB hx579_1
       replace hx579_2 := cb_ HB hx579_2
       replace hx579_3 := cb_ HB hx579_3
       replace hx579_4 := cb_ HB hx579_4
       replace hx579_5 := cb_ HB hx579_5
       replace hx579_6 := cb_ HB hx579_6
       replace hx579_7 := cb_ HB hx579_7
       replace hx579_8 := cb_ HB hx579_8
       replace hx579_9 := cb_ HB hx579_9
       replace p579 := eq_true p579
       replace q579 := eq_true q579
       have p584 : 0 ≤ (x7_1 : Int) := od_
       have q584 : x7_1 < (l0.length : Int) := od_
       obtain ⟨ad584, e584, hx584_0, hx584_1, hx584_2, hx584_3, hx584_4, hx584_5, hx584_6, hx584_7, hx584_8, hx584_9⟩ := at_T56 HR0.out x7_1 p584 q584
       have hw584_9 := hx584_9
       have hw584_8 := hx584_8
       have hw584_7 := hx584_7
       have hw584_6 := hx584_6
       have hw584_5 := hx584_5
       have hw584_4 := hx584_4
       have hw584_3 := hx584_3
       have hw584_2 := hx584_2
       have hw584_1 := hx584_1
       have hw584_0 := hx584_0
       obtain rfl : ad577 = ad584 := (by injection e584)
       replace hx584_0 := cb_ HB hx584_0
       replace hx584_1 := cb_ HB hx584_1
       replace hx584_2 := cb_ HB hx584_2
       replace hx584_3 := cb_ HB hx584_3
       replace hx584_4 := cb_ HB hx584_4
       replace hx584_5 := cb_ HB hx584_5
       replace hx584_6 := cb_ HB hx584_6
       replace hx584_7 := cb_ HB hx584_7
       replace hx584_8 := cb_ HB hx584_8
       replace hx584_9 := cb_ HB hx584_9
       replace p584 := eq_true p584
       replace q584 := eq_true q584
       refine start_ (n := 23) (S := fun w' => w'.cell? ⟨gb570, 0, none⟩ = some (.int .i64 a1_0) ∧ w'.cell? ⟨gb570, 1, none⟩ = some (.int .i64 a1_1) ∧ w'.cell? (ad577.add ((x7_1).toNat * 10)) = some (.int .i64 ((rd_T56 l0 x7_1).f0)) ∧ w'.cell? ⟨(ad577.add ((x7_1).toNat * 10)).block, (ad577.add ((x7_1).toNat * 10)).off + 1, none⟩ = some (.int .i64 ((rd_T56 l0 x7_1).f1.f0)) ∧ w'.cell? ⟨(ad577.add ((x7_1).toNat * 10)).block, (ad577.add ((x7_1).toNat * 10)).off + 2, none⟩ = some (.int .i64 ((rd_T56 l0 x7_1).f1.f1)) ∧ w'.cell? ⟨(ad577.add ((x7_1).toNat * 10)).block, (ad577.add ((x7_1).toNat * 10)).off + 3, none⟩ = some (.int .i64 ((rd_T56 l0 x7_1).f2)) ∧ w'.cell? ⟨(ad577.add ((x7_1).toNat * 10)).block, (ad577.add ((x7_1).toNat * 10)).off + 4, none⟩ = some (.int .i64 ((rd_T56 l0 x7_1).f3.f0)) ∧ w'.cell? ⟨(ad577.add ((x7_1).toNat * 10)).block, (ad577.add ((x7_1).toNat * 10)).off + 5, none⟩ = some (.int .i64 ((rd_T56 l0 x7_1).f3.f1)) ∧ w'.cell? ⟨(ad577.add ((x7_1).toNat * 10)).block, (ad577.add ((x7_1).toNat * 10)).off + 6, none⟩ = some (.int .i64 ((rd_T56 l0 x7_1).f4.f0)) ∧ w'.cell? ⟨(ad577.add ((x7_1).toNat * 10)).block, (ad577.add ((x7_1).toNat * 10)).off + 7, none⟩ = some (.int .i64 ((rd_T56 l0 x7_1).f4.f1)) ∧ w'.cell? ⟨(ad577.add ((x7_1).toNat * 10)).block, (ad577.add ((x7_1).toNat * 10)).off + 8, none⟩ = some (.int .i64 ((rd_T56 l0 x7_1).f5)) ∧ w'.cell? ⟨(ad577.add ((x7_1).toNat * 10)).block, (ad577.add ((x7_1).toNat * 10)).off + 9, none⟩ = some (.int .i64 ((rd_T56 l0 x7_1).f6)) ∧ w'.cell? (ad577.add ((x7_1).toNat * 10)) = some (.int .i64 ((rd_T56 l0 x7_1).f0)) ∧ w'.cell? ⟨(ad577.add ((x7_1).toNat * 10)).block, (ad577.add ((x7_1).toNat * 10)).off + 1, none⟩ = some (.int .i64 ((rd_T56 l0 x7_1).f1.f0)) ∧ w'.cell? ⟨(ad577.add ((x7_1).toNat * 10)).block, (ad577.add ((x7_1).toNat * 10)).off + 2, none⟩ = some (.int .i64 ((rd_T56 l0 x7_1).f1.f1)) ∧ w'.cell? ⟨(ad577.add ((x7_1).toNat * 10)).block, (ad577.add ((x7_1).toNat * 10)).off + 3, none⟩ = some (.int .i64 ((rd_T56 l0 x7_1).f2)) ∧ w'.cell? ⟨(ad577.add ((x7_1).toNat * 10)).block, (ad577.add ((x7_1).toNat * 10)).off + 4, none⟩ = some (.int .i64 ((rd_T56 l0 x7_1).f3.f0)) ∧ w'.cell? ⟨(ad577.add ((x7_1).toNat * 10)).block, (ad577.add ((x7_1).toNat * 10)).off + 5, none⟩ = some (.int .i64 ((rd_T56 l0 x7_1).f3.f1)) ∧ w'.cell? ⟨(ad577.add ((x7_1).toNat * 10)).block, (ad577.add ((x7_1).toNat * 10)).off + 6, none⟩ = some (.int .i64 ((rd_T56 l0 x7_1).f4.f0)) ∧ w'.cell? ⟨(ad577.add ((x7_1).toNat * 10)).block, (ad577.add ((x7_1).toNat * 10)).off + 7, none⟩ = some (.int .i64 ((rd_T56 l0 x7_1).f4.f1)) ∧ w'.cell? ⟨(ad577.add ((x7_1).toNat * 10)).block, (ad577.add ((x7_1).toNat * 10)).off + 8, none⟩ = some (.int .i64 ((rd_T56 l0 x7_1).f5)) ∧ w'.cell? ⟨(ad577.add ((x7_1).toNat * 10)).block, (ad577.add ((x7_1).toNat * 10)).off + 9, none⟩ = some (.int .i64 ((rd_T56 l0 x7_1).f6)) ∧ w'.cell? (ad577.add ((x7_1).toNat * 10)) = some (.int .i64 ((rd_T56 l0 x7_1).f0)) ∧ w'.cell? ⟨(ad577.add ((x7_1).toNat * 10)).block, (ad577.add ((x7_1).toNat * 10)).off + 1, none⟩ = some (.int .i64 ((rd_T56 l0 x7_1).f1.f0)) ∧ w'.cell? ⟨(ad577.add ((x7_1).toNat * 10)).block, (ad577.add ((x7_1).toNat * 10)).off + 2, none⟩ = some (.int .i64 ((rd_T56 l0 x7_1).f1.f1)) ∧ w'.cell? ⟨(ad577.add ((x7_1).toNat * 10)).block, (ad577.add ((x7_1).toNat * 10)).off + 3, none⟩ = some (.int .i64 ((rd_T56 l0 x7_1).f2)) ∧ w'.cell? ⟨(ad577.add ((x7_1).toNat * 10)).block, (ad577.add ((x7_1).toNat * 10)).off + 4, none⟩ = some (.int .i64 ((rd_T56 l0 x7_1).f3.f0)) ∧ w'.cell? ⟨(ad577.add ((x7_1).toNat * 10)).block, (ad577.add ((x7_1).toNat * 10)).off + 5, none⟩ = some (.int .i64 ((rd_T56 l0 x7_1).f3.f1)) ∧ w'.cell? ⟨(ad577.add ((x7_1).toNat * 10)).block, (ad577.add ((x7_1).toNat * 10)).off + 6, none⟩ = some (.int .i64 ((rd_T56 l0 x7_1).f4.f0)) ∧ w'.cell? ⟨(ad577.add ((x7_1).toNat * 10)).block, (ad577.add ((x7_1).toNat * 10)).off + 7, none⟩ = some (.int .i64 ((rd_T56 l0 x7_1).f4.f1)) ∧ w'.cell? ⟨(ad577.add ((x7_1).toNat * 10)).block, (ad577.add ((x7_1).toNat * 10)).off + 8, none⟩ = some (.int .i64 ((rd_T56 l0 x7_1).f5)) ∧ w'.cell? ⟨(ad577.add ((x7_1).toNat * 10)).block, (ad577.add ((x7_1).toNat * 10)).off + 9, none⟩ = some (.int .i64 ((rd_T56 l0 x7_1).f6))) (ds := []) #[false, false, false, false, false, false, false, false, false, false, false, false, false, false, false, false, false, false, false, false, false, false, false] (by kernel_rfl) rfl rfl ⟨(blk_cell BK570.out 0).trans rfl, (blk_cell BK570.out 1).trans rfl, ((HB.out.cell (World.block_lt_of_cell? w _ hw577_0)).trans hw577_0), ((HB.out.cell (World.block_lt_of_cell? w _ hw577_1)).trans hw577_1), ((HB.out.cell (World.block_lt_of_cell? w _ hw577_2)).trans hw577_2), ((HB.out.cell (World.block_lt_of_cell? w _ hw577_3)).trans hw577_3), ((HB.out.cell (World.block_lt_of_cell? w _ hw577_4)).trans hw577_4), ((HB.out.cell (World.block_lt_of_cell? w _ hw577_5)).trans hw577_5), ((HB.out.cell (World.block_lt_of_cell? w _ hw577_6)).trans hw577_6), ((HB.out.cell (World.block_lt_of_cell? w _ hw577_7)).trans hw577_7), ((HB.out.cell (World.block_lt_of_cell? w _ hw577_8)).trans hw577_8), ((HB.out.cell (World.block_lt_of_cell? w _ hw577_9)).trans hw577_9), ((HB.out.cell (World.block_lt_of_cell? w _ hw579_0)).trans hw579_0), ((HB.out.cell (World.block_lt_of_cell? w _ hw579_1)).trans hw579_1), ((HB.out.cell (World.block_lt_of_cell? w _ hw579_2)).trans hw579_2), ((HB.out.cell (World.block_lt_of_cell? w _ hw579_3)).trans hw579_3), ((HB.out.cell (World.block_lt_of_cell? w _ hw579_4)).trans hw579_4), ((HB.out.cell (World.block_lt_of_cell? w _ hw579_5)).trans hw579_5), ((HB.out.cell (World.block_lt_of_cell? w _ hw579_6)).trans hw579_6), ((HB.out.cell (World.block_lt_of_cell? w _ hw579_7)).trans hw579_7), ((HB.out.cell (World.block_lt_of_cell? w _ hw579_8)).trans hw579_8), ((HB.out.cell (World.block_lt_of_cell? w _ hw579_9)).trans hw579_9), ((HB.out.cell (World.block_lt_of_cell? w _ hw584_0)).trans hw584_0), ((HB.out.cell (World.block_lt_of_cell? w _ hw584_1)).trans hw584_1), ((HB.out.cell (World.block_lt_of_cell? w _ hw584_2)).trans hw584_2), ((HB.out.cell (World.block_lt_of_cell? w _ hw584_3)).trans hw584_3), ((HB.out.cell (World.block_lt_of_cell? w _ hw584_4)).trans hw584_4), ((HB.out.cell (World.block_lt_of_cell? w _ hw584_5)).trans hw584_5), ((HB.out.cell (World.block_lt_of_cell? w _ hw584_6)).trans hw584_6), ((HB.out.cell (World.block_lt_of_cell? w _ hw584_7)).trans hw584_7), ((HB.out.cell (World.block_lt_of_cell? w _ hw584_8)).trans hw584_8), ((HB.out.cell (World.block_lt_of_cell? w _ hw584_9)).trans hw584_9)⟩ (fun hHeld => ?_); refine with_tabW spec_NeededFor.tab6 spec_NeededFor.bits6 (fun HT_ HW_ => ?_)
       generalize wr.drew = w26 at HO_5 HO_6 BK570 HB hx577_0 hx577_1 hx577_2 hx577_3 hx577_4 hx577_5 hx577_6 hx577_7 hx577_8 hx577_9 hx579_0 hx579_1 hx579_2 hx579_3 hx579_4 hx579_5 hx579_6 hx579_7 hx579_8 hx579_9 hx584_0 hx584_1 hx584_2 hx584_3 hx584_4 hx584_5 hx584_6 hx584_7 hx584_8 hx584_9 hHeld ⊢
       refine pureZ_ (i := 0) (some 18) #[true, false, false, false, false, false, false, false, false, false, false, false, false, false, false, false, false, false, false, false, false, false, false] (any_of HT_.out (by kernel_rfl)) ?_
       refine pureZ_ (i := 1) (some 19) #[true, true, false, false, false, false, false, false, false, false, false, false, false, false, false, false, false, false, false, false, false, false, false] (any_of HT_.out (by kernel_rfl)) ?_
       refine pureZ_ (i := 2) (some 20) #[true, true, true, false, false, false, false, false, false, false, false, false, false, false, false, false, false, false, false, false, false, false, false] (any_of HT_.out (by kernel_rfl)) ?_
       refine takeZ_ (i := 3) (some 21) #[true, true, true, true, false, false, false, false, false, false, false, false, false, false, false, false, false, false, false, false, false, false, false] (take_ofW HT_.out HW_.out (by kernel_rfl)) hHeld ?_
       refine one_ (i := 4) (N := some 22) #[true, true, true, true, true, false, false, false, false, false, false, false, false, false, false, false, false, false, false, false, false, false, false] rfl rfl (one_of HT_.out (by kernel_rfl)) (by decide) (fun K hK => ?_)
       refine goes_ Try.func94 (by kernel_rfl) rfl #[.agg #[.int .i64 ((rd_T56 l0 x7_1).f0), .int .i64 ((rd_T56 l0 x7_1).f1.f0), .int .i64 ((rd_T56 l0 x7_1).f1.f1), .int .i64 ((rd_T56 l0 x7_1).f2), .int .i64 ((rd_T56 l0 x7_1).f3.f0), .int .i64 ((rd_T56 l0 x7_1).f3.f1), .int .i64 ((rd_T56 l0 x7_1).f4.f0), .int .i64 ((rd_T56 l0 x7_1).f4.f1), .int .i64 ((rd_T56 l0 x7_1).f5), .int .i64 ((rd_T56 l0 x7_1).f6)]] (by rfl) rfl rfl (by (try simp only [List.map_toArray, List.map_cons, List.map_nil]); first | done | rfl | (simp only [List.length_drop, List.length_take]; rfl)) ?_
       with_reducible refine (spec_CredOk.calls k1 ((rd_T56 l0 x7_1).f0) ((rd_T56 l0 x7_1).f1.f0) ((rd_T56 l0 x7_1).f1.f1) ((rd_T56 l0 x7_1).f2) ((rd_T56 l0 x7_1).f3.f0) ((rd_T56 l0 x7_1).f3.f1) ((rd_T56 l0 x7_1).f4.f0) ((rd_T56 l0 x7_1).f4.f1) ((rd_T56 l0 x7_1).f5) ((rd_T56 l0 x7_1).f6) true _ A11.out).mono ?_
       rintro e w27 ⟨rfl, hb⟩
       refine ⟨_, rfl, ?_⟩
       replace HO_5 := hob_ HO_5 hb
       replace HO_6 := hob_ HO_6 hb
       replace BK570 := bkb_ BK570 hb
       replace HB := hbs_ hb
       (try clear hb)
       (try clear hb2)
       (try clear hk)
       (try clear hi)
       obtain ⟨Ao28, co28, eo28⟩ := Kd.R_slice HO_6.out
       (first | subst eo28 | (injection eo28 with f1_ f2_ f3_; have f4_ := f1_.symm; have f5_ := f3_.symm; clear f1_ f2_ f3_; subst f4_; subst f5_))
       refine hK.out _ _ ⟨(blk_cell BK570.out 0).trans rfl, (blk_cell BK570.out 1).trans rfl, ((HB.out.cell (World.block_lt_of_cell? w _ hw577_0)).trans hw577_0), ((HB.out.cell (World.block_lt_of_cell? w _ hw577_1)).trans hw577_1), ((HB.out.cell (World.block_lt_of_cell? w _ hw577_2)).trans hw577_2), ((HB.out.cell (World.block_lt_of_cell? w _ hw577_3)).trans hw577_3), ((HB.out.cell (World.block_lt_of_cell? w _ hw577_4)).trans hw577_4), ((HB.out.cell (World.block_lt_of_cell? w _ hw577_5)).trans hw577_5), ((HB.out.cell (World.block_lt_of_cell? w _ hw577_6)).trans hw577_6), ((HB.out.cell (World.block_lt_of_cell? w _ hw577_7)).trans hw577_7), ((HB.out.cell (World.block_lt_of_cell? w _ hw577_8)).trans hw577_8), ((HB.out.cell (World.block_lt_of_cell? w _ hw577_9)).trans hw577_9), ((HB.out.cell (World.block_lt_of_cell? w _ hw579_0)).trans hw579_0), ((HB.out.cell (World.block_lt_of_cell? w _ hw579_1)).trans hw579_1), ((HB.out.cell (World.block_lt_of_cell? w _ hw579_2)).trans hw579_2), ((HB.out.cell (World.block_lt_of_cell? w _ hw579_3)).trans hw579_3), ((HB.out.cell (World.block_lt_of_cell? w _ hw579_4)).trans hw579_4), ((HB.out.cell (World.block_lt_of_cell? w _ hw579_5)).trans hw579_5), ((HB.out.cell (World.block_lt_of_cell? w _ hw579_6)).trans hw579_6), ((HB.out.cell (World.block_lt_of_cell? w _ hw579_7)).trans hw579_7), ((HB.out.cell (World.block_lt_of_cell? w _ hw579_8)).trans hw579_8), ((HB.out.cell (World.block_lt_of_cell? w _ hw579_9)).trans hw579_9), ((HB.out.cell (World.block_lt_of_cell? w _ hw584_0)).trans hw584_0), ((HB.out.cell (World.block_lt_of_cell? w _ hw584_1)).trans hw584_1), ((HB.out.cell (World.block_lt_of_cell? w _ hw584_2)).trans hw584_2), ((HB.out.cell (World.block_lt_of_cell? w _ hw584_3)).trans hw584_3), ((HB.out.cell (World.block_lt_of_cell? w _ hw584_4)).trans hw584_4), ((HB.out.cell (World.block_lt_of_cell? w _ hw584_5)).trans hw584_5), ((HB.out.cell (World.block_lt_of_cell? w _ hw584_6)).trans hw584_6), ((HB.out.cell (World.block_lt_of_cell? w _ hw584_7)).trans hw584_7), ((HB.out.cell (World.block_lt_of_cell? w _ hw584_8)).trans hw584_8), ((HB.out.cell (World.block_lt_of_cell? w _ hw584_9)).trans hw584_9)⟩ (fun hHeld => ?_)
       clear hK K
       refine norm_ (a' := ?_) ?_ ?_
       rotate_left
       ·show Act.put _ (some 22) _ = _
        simp only [Act.put, List.setIfInBounds_toArray, List.set_cons_zero, List.set_cons_succ, i64_w, i32_w]
        rfl
       refine pureZ_ (i := 5) (some 23) #[true, true, true, true, true, true, false, false, false, false, false, false, false, false, false, false, false, false, false, false, false, false, false] (any_of HT_.out (by kernel_rfl)) ?_
       refine pureZ_ (i := 6) (some 24) #[true, true, true, true, true, true, true, false, false, false, false, false, false, false, false, false, false, false, false, false, false, false, false] (any_of HT_.out (by kernel_rfl)) ?_
       refine pureZ_ (i := 7) (some 25) #[true, true, true, true, true, true, true, true, false, false, false, false, false, false, false, false, false, false, false, false, false, false, false] (any_of HT_.out (by kernel_rfl)) ?_
       refine pureZ_ (i := 8) (some 26) #[true, true, true, true, true, true, true, true, true, false, false, false, false, false, false, false, false, false, false, false, false, false, false] (any_of HT_.out (by kernel_rfl)) ?_
       refine pureZ_ (i := 9) (some 27) #[true, true, true, true, true, true, true, true, true, true, false, false, false, false, false, false, false, false, false, false, false, false, false] (any_of HT_.out (by kernel_rfl)) ?_
       refine takeZ_ (i := 10) (some 28) #[true, true, true, true, true, true, true, true, true, true, true, false, false, false, false, false, false, false, false, false, false, false, false] (take_ofW HT_.out HW_.out (by kernel_rfl)) hHeld ?_
       refine takeZ_ (i := 11) (some 29) #[true, true, true, true, true, true, true, true, true, true, true, true, false, false, false, false, false, false, false, false, false, false, false] (take_ofW HT_.out HW_.out (by kernel_rfl)) hHeld ?_
       refine pureZ_ (i := 12) (some 30) #[true, true, true, true, true, true, true, true, true, true, true, true, true, false, false, false, false, false, false, false, false, false, false] (any_of HT_.out (by kernel_rfl)) ?_
       refine pureZ_ (i := 13) (some 31) #[true, true, true, true, true, true, true, true, true, true, true, true, true, true, false, false, false, false, false, false, false, false, false] (any_of HT_.out (by kernel_rfl)) ?_
       refine pureZ_ (i := 14) (some 32) #[true, true, true, true, true, true, true, true, true, true, true, true, true, true, true, false, false, false, false, false, false, false, false] (any_of HT_.out (by kernel_rfl)) ?_
       refine pureZ_ (i := 15) (some 33) #[true, true, true, true, true, true, true, true, true, true, true, true, true, true, true, true, false, false, false, false, false, false, false] (any_of HT_.out (by kernel_rfl)) ?_
       refine pureZ_ (i := 16) (some 34) #[true, true, true, true, true, true, true, true, true, true, true, true, true, true, true, true, true, false, false, false, false, false, false] (any_of HT_.out (by kernel_rfl)) ?_
       refine pureZ_ (i := 17) (some 35) #[true, true, true, true, true, true, true, true, true, true, true, true, true, true, true, true, true, true, false, false, false, false, false] (any_of HT_.out (by kernel_rfl)) ?_
       refine pureZ_ (i := 18) (some 36) #[true, true, true, true, true, true, true, true, true, true, true, true, true, true, true, true, true, true, true, false, false, false, false] (any_of HT_.out (by kernel_rfl)) ?_
       refine takeZ_ (i := 19) (some 37) #[true, true, true, true, true, true, true, true, true, true, true, true, true, true, true, true, true, true, true, true, false, false, false] (take_ofW HT_.out HW_.out (by kernel_rfl)) hHeld ?_
       refine one_ (i := 20) (N := some 38) #[true, true, true, true, true, true, true, true, true, true, true, true, true, true, true, true, true, true, true, true, true, false, false] rfl rfl (one_of HT_.out (by kernel_rfl)) (by decide) (fun K hK => ?_)
       refine goes_ Try.func136 (by kernel_rfl) rfl #[.slice Ao28 t574.length co28, .agg #[.int .i64 ((rd_T56 l0 x7_1).f1.f0), .int .i64 ((rd_T56 l0 x7_1).f1.f1)]] (by rfl) rfl rfl (by (try simp only [List.map_toArray, List.map_cons, List.map_nil]); first | done | rfl | (simp only [List.length_drop, List.length_take]; rfl)) ?_
       with_reducible refine (spec_l13Done.calls k1 _ _ t574 ((rd_T56 l0 x7_1).f1.f0) ((rd_T56 l0 x7_1).f1.f1) false _ ?side1 ?side2 A18.out).mono ?_
       (case side1 => repeat (first | exact (Kd.R_reads' HO_6.out).2.2 | (with_reducible refine Kd.C_alloc ?_ _) | (with_reducible refine Kd.C_drewN ?_ _) | (with_reducible refine Kd.C_drew ?_)))
       (case side2 => exact (Kd.R_reads' HO_6.out).2.1)
       rintro e w29 ⟨rfl, hb⟩
       refine ⟨_, rfl, ?_⟩
       replace HO_5 := hob_ HO_5 hb
       replace HO_6 := hob_ HO_6 hb
       replace BK570 := bkb_ BK570 hb
       replace HB := hbs_ hb
       (try clear hb)
       (try clear hb2)
       (try clear hk)
       (try clear hi)
       refine hK.out _ _ ⟨(blk_cell BK570.out 0).trans rfl, (blk_cell BK570.out 1).trans rfl, ((HB.out.cell (World.block_lt_of_cell? w _ hw577_0)).trans hw577_0), ((HB.out.cell (World.block_lt_of_cell? w _ hw577_1)).trans hw577_1), ((HB.out.cell (World.block_lt_of_cell? w _ hw577_2)).trans hw577_2), ((HB.out.cell (World.block_lt_of_cell? w _ hw577_3)).trans hw577_3), ((HB.out.cell (World.block_lt_of_cell? w _ hw577_4)).trans hw577_4), ((HB.out.cell (World.block_lt_of_cell? w _ hw577_5)).trans hw577_5), ((HB.out.cell (World.block_lt_of_cell? w _ hw577_6)).trans hw577_6), ((HB.out.cell (World.block_lt_of_cell? w _ hw577_7)).trans hw577_7), ((HB.out.cell (World.block_lt_of_cell? w _ hw577_8)).trans hw577_8), ((HB.out.cell (World.block_lt_of_cell? w _ hw577_9)).trans hw577_9), ((HB.out.cell (World.block_lt_of_cell? w _ hw579_0)).trans hw579_0), ((HB.out.cell (World.block_lt_of_cell? w _ hw579_1)).trans hw579_1), ((HB.out.cell (World.block_lt_of_cell? w _ hw579_2)).trans hw579_2), ((HB.out.cell (World.block_lt_of_cell? w _ hw579_3)).trans hw579_3), ((HB.out.cell (World.block_lt_of_cell? w _ hw579_4)).trans hw579_4), ((HB.out.cell (World.block_lt_of_cell? w _ hw579_5)).trans hw579_5), ((HB.out.cell (World.block_lt_of_cell? w _ hw579_6)).trans hw579_6), ((HB.out.cell (World.block_lt_of_cell? w _ hw579_7)).trans hw579_7), ((HB.out.cell (World.block_lt_of_cell? w _ hw579_8)).trans hw579_8), ((HB.out.cell (World.block_lt_of_cell? w _ hw579_9)).trans hw579_9), ((HB.out.cell (World.block_lt_of_cell? w _ hw584_0)).trans hw584_0), ((HB.out.cell (World.block_lt_of_cell? w _ hw584_1)).trans hw584_1), ((HB.out.cell (World.block_lt_of_cell? w _ hw584_2)).trans hw584_2), ((HB.out.cell (World.block_lt_of_cell? w _ hw584_3)).trans hw584_3), ((HB.out.cell (World.block_lt_of_cell? w _ hw584_4)).trans hw584_4), ((HB.out.cell (World.block_lt_of_cell? w _ hw584_5)).trans hw584_5), ((HB.out.cell (World.block_lt_of_cell? w _ hw584_6)).trans hw584_6), ((HB.out.cell (World.block_lt_of_cell? w _ hw584_7)).trans hw584_7), ((HB.out.cell (World.block_lt_of_cell? w _ hw584_8)).trans hw584_8), ((HB.out.cell (World.block_lt_of_cell? w _ hw584_9)).trans hw584_9)⟩ (fun hHeld => ?_)
       clear hK K
       refine norm_ (a' := ?_) ?_ ?_
       rotate_left
       ·show Act.put _ (some 38) _ = _
        simp only [Act.put, List.setIfInBounds_toArray, List.set_cons_zero, List.set_cons_succ, i64_w, i32_w]
        rfl
       refine pureZ_ (i := 21) (some 39) #[true, true, true, true, true, true, true, true, true, true, true, true, true, true, true, true, true, true, true, true, true, true, false] (any_of HT_.out (by kernel_rfl)) ?_
       refine pureZ_ (i := 22) (some 40) #[true, true, true, true, true, true, true, true, true, true, true, true, true, true, true, true, true, true, true, true, true, true, true] (any_of HT_.out (by kernel_rfl)) ?_
       refine done_ (done_of HT_.out (by kernel_rfl)) ?_
       try go_wp2
       go_roundg k1
       case measure => have := HK1.out; omega
       case rel => exact ⟨(x5_1), (wrap64 (x7_1 + 1)), rf_, H', ⟨by have := HK1.out; omega⟩, ⟨by (with_reducible repeat (first | apply Kd.R_alloc | apply Kd.R_drewN | apply Kd.R_drew)); exact HO_5.out⟩, ⟨by (with_reducible repeat (first | apply Kd.R_alloc | apply Kd.R_drewN | apply Kd.R_drew)); exact HO_6.out⟩, ⟨bk_ BK570⟩, ⟨bl_⟩⟩
    ·replace c12 := Bool.eq_false_iff.mpr c12
     subst c12
     replace H := ite_f_ H
     have H' := Aside0.mk H
     clear H
     try go_wp2
     replace HO_5 := Aside0.mk (Kd.R_drew HO_5.out)
     replace HO_6 := Aside0.mk (Kd.R_drew HO_6.out)
     replace BK570 := Aside0.mk (blk_drew BK570.out)
     replace HB := Aside0.mk (below_drew1 HB.out)
     have p577 : 0 ≤ (x7_1 : Int) := od_
     have q577 : x7_1 < (l0.length : Int) := od_
     obtain ⟨ad577, e577, hx577_0, hx577_1, hx577_2, hx577_3, hx577_4, hx577_5, hx577_6, hx577_7, hx577_8, hx577_9⟩ := at_T56 HR0.out x7_1 p577 q577
     have hw577_9 := hx577_9
     have hw577_8 := hx577_8
     have hw577_7 := hx577_7
     have hw577_6 := hx577_6
     have hw577_5 := hx577_5
     have hw577_4 := hx577_4
     have hw577_3 := hx577_3
     have hw577_2 := hx577_2
     have hw577_1 := hx577_1
     have hw577_0 := hx577_0
     cases e577
     replace hx577_0 := cb_ HB hx577_0
     replace hx577_1 := cb_ HB hx577_1
     replace hx577_2 := cb_ HB hx577_2
     replace hx577_3 := cb_ HB hx577_3
     replace hx577_4 := cb_ HB hx577_4
     replace hx577_5 := cb_ HB hx577_5
     replace hx577_6 := cb_ HB hx577_6
     replace hx577_7 := cb_ HB hx577_7
     replace hx577_8 := cb_ HB hx577_8
     replace hx577_9 := cb_ HB hx577_9
     replace p577 := eq_true p577
     replace q577 := eq_true q577
     refine start_ (n := 23) (S := fun w' => w'.cell? (ad577.add ((x7_1).toNat * 10)) = some (.int .i64 ((rd_T56 l0 x7_1).f0)) ∧ w'.cell? ⟨(ad577.add ((x7_1).toNat * 10)).block, (ad577.add ((x7_1).toNat * 10)).off + 1, none⟩ = some (.int .i64 ((rd_T56 l0 x7_1).f1.f0)) ∧ w'.cell? ⟨(ad577.add ((x7_1).toNat * 10)).block, (ad577.add ((x7_1).toNat * 10)).off + 2, none⟩ = some (.int .i64 ((rd_T56 l0 x7_1).f1.f1)) ∧ w'.cell? ⟨(ad577.add ((x7_1).toNat * 10)).block, (ad577.add ((x7_1).toNat * 10)).off + 3, none⟩ = some (.int .i64 ((rd_T56 l0 x7_1).f2)) ∧ w'.cell? ⟨(ad577.add ((x7_1).toNat * 10)).block, (ad577.add ((x7_1).toNat * 10)).off + 4, none⟩ = some (.int .i64 ((rd_T56 l0 x7_1).f3.f0)) ∧ w'.cell? ⟨(ad577.add ((x7_1).toNat * 10)).block, (ad577.add ((x7_1).toNat * 10)).off + 5, none⟩ = some (.int .i64 ((rd_T56 l0 x7_1).f3.f1)) ∧ w'.cell? ⟨(ad577.add ((x7_1).toNat * 10)).block, (ad577.add ((x7_1).toNat * 10)).off + 6, none⟩ = some (.int .i64 ((rd_T56 l0 x7_1).f4.f0)) ∧ w'.cell? ⟨(ad577.add ((x7_1).toNat * 10)).block, (ad577.add ((x7_1).toNat * 10)).off + 7, none⟩ = some (.int .i64 ((rd_T56 l0 x7_1).f4.f1)) ∧ w'.cell? ⟨(ad577.add ((x7_1).toNat * 10)).block, (ad577.add ((x7_1).toNat * 10)).off + 8, none⟩ = some (.int .i64 ((rd_T56 l0 x7_1).f5)) ∧ w'.cell? ⟨(ad577.add ((x7_1).toNat * 10)).block, (ad577.add ((x7_1).toNat * 10)).off + 9, none⟩ = some (.int .i64 ((rd_T56 l0 x7_1).f6))) (ds := []) #[false, false, false, false, false, false, false, false, false, false, false, false, false, false, false, false, false, false, false, false, false, false, false] (by kernel_rfl) rfl rfl ⟨((HB.out.cell (World.block_lt_of_cell? w _ hw577_0)).trans hw577_0), ((HB.out.cell (World.block_lt_of_cell? w _ hw577_1)).trans hw577_1), ((HB.out.cell (World.block_lt_of_cell? w _ hw577_2)).trans hw577_2), ((HB.out.cell (World.block_lt_of_cell? w _ hw577_3)).trans hw577_3), ((HB.out.cell (World.block_lt_of_cell? w _ hw577_4)).trans hw577_4), ((HB.out.cell (World.block_lt_of_cell? w _ hw577_5)).trans hw577_5), ((HB.out.cell (World.block_lt_of_cell? w _ hw577_6)).trans hw577_6), ((HB.out.cell (World.block_lt_of_cell? w _ hw577_7)).trans hw577_7), ((HB.out.cell (World.block_lt_of_cell? w _ hw577_8)).trans hw577_8), ((HB.out.cell (World.block_lt_of_cell? w _ hw577_9)).trans hw577_9)⟩ (fun hHeld => ?_); refine with_tabW spec_NeededFor.tab6 spec_NeededFor.bits6 (fun HT_ HW_ => ?_)
     generalize wr.drew = w30 at HO_5 HO_6 BK570 HB hx577_0 hx577_1 hx577_2 hx577_3 hx577_4 hx577_5 hx577_6 hx577_7 hx577_8 hx577_9 hHeld ⊢
     refine pureZ_ (i := 0) (some 18) #[true, false, false, false, false, false, false, false, false, false, false, false, false, false, false, false, false, false, false, false, false, false, false] (any_of HT_.out (by kernel_rfl)) ?_
     refine pureZ_ (i := 1) (some 19) #[true, true, false, false, false, false, false, false, false, false, false, false, false, false, false, false, false, false, false, false, false, false, false] (any_of HT_.out (by kernel_rfl)) ?_
     refine pureZ_ (i := 2) (some 20) #[true, true, true, false, false, false, false, false, false, false, false, false, false, false, false, false, false, false, false, false, false, false, false] (any_of HT_.out (by kernel_rfl)) ?_
     refine takeZ_ (i := 3) (some 21) #[true, true, true, true, false, false, false, false, false, false, false, false, false, false, false, false, false, false, false, false, false, false, false] (take_ofW HT_.out HW_.out (by kernel_rfl)) hHeld ?_
     refine one_ (i := 4) (N := some 22) #[true, true, true, true, true, false, false, false, false, false, false, false, false, false, false, false, false, false, false, false, false, false, false] rfl rfl (one_of HT_.out (by kernel_rfl)) (by decide) (fun K hK => ?_)
     refine goes_ Try.func94 (by kernel_rfl) rfl #[.agg #[.int .i64 ((rd_T56 l0 x7_1).f0), .int .i64 ((rd_T56 l0 x7_1).f1.f0), .int .i64 ((rd_T56 l0 x7_1).f1.f1), .int .i64 ((rd_T56 l0 x7_1).f2), .int .i64 ((rd_T56 l0 x7_1).f3.f0), .int .i64 ((rd_T56 l0 x7_1).f3.f1), .int .i64 ((rd_T56 l0 x7_1).f4.f0), .int .i64 ((rd_T56 l0 x7_1).f4.f1), .int .i64 ((rd_T56 l0 x7_1).f5), .int .i64 ((rd_T56 l0 x7_1).f6)]] (by rfl) rfl rfl (by (try simp only [List.map_toArray, List.map_cons, List.map_nil]); first | done | rfl | (simp only [List.length_drop, List.length_take]; rfl)) ?_
     with_reducible refine (spec_CredOk.calls k1 ((rd_T56 l0 x7_1).f0) ((rd_T56 l0 x7_1).f1.f0) ((rd_T56 l0 x7_1).f1.f1) ((rd_T56 l0 x7_1).f2) ((rd_T56 l0 x7_1).f3.f0) ((rd_T56 l0 x7_1).f3.f1) ((rd_T56 l0 x7_1).f4.f0) ((rd_T56 l0 x7_1).f4.f1) ((rd_T56 l0 x7_1).f5) ((rd_T56 l0 x7_1).f6) false _ A11.out).mono ?_
     rintro e w31 ⟨rfl, hb⟩
     refine ⟨_, rfl, ?_⟩
     replace HO_5 := hob_ HO_5 hb
     replace HO_6 := hob_ HO_6 hb
     replace BK570 := bkb_ BK570 hb
     replace HB := hbs_ hb
     (try clear hb)
     (try clear hb2)
     (try clear hk)
     (try clear hi)
     refine hK.out _ _ ⟨((HB.out.cell (World.block_lt_of_cell? w _ hw577_0)).trans hw577_0), ((HB.out.cell (World.block_lt_of_cell? w _ hw577_1)).trans hw577_1), ((HB.out.cell (World.block_lt_of_cell? w _ hw577_2)).trans hw577_2), ((HB.out.cell (World.block_lt_of_cell? w _ hw577_3)).trans hw577_3), ((HB.out.cell (World.block_lt_of_cell? w _ hw577_4)).trans hw577_4), ((HB.out.cell (World.block_lt_of_cell? w _ hw577_5)).trans hw577_5), ((HB.out.cell (World.block_lt_of_cell? w _ hw577_6)).trans hw577_6), ((HB.out.cell (World.block_lt_of_cell? w _ hw577_7)).trans hw577_7), ((HB.out.cell (World.block_lt_of_cell? w _ hw577_8)).trans hw577_8), ((HB.out.cell (World.block_lt_of_cell? w _ hw577_9)).trans hw577_9)⟩ (fun hHeld => ?_)
     clear hK K
     refine norm_ (a' := ?_) ?_ ?_
     rotate_left
     ·show Act.put _ (some 22) _ = _
      simp only [Act.put, List.setIfInBounds_toArray, List.set_cons_zero, List.set_cons_succ, i64_w, i32_w]
      rfl
     refine pureZ_ (i := 5) (some 23) #[true, true, true, true, true, true, false, false, false, false, false, false, false, false, false, false, false, false, false, false, false, false, false] (any_of HT_.out (by kernel_rfl)) ?_
     refine pure_ (i := 6) (N := some 24) (v := undef) (a' := ?_) #[true, true, true, true, true, true, true, false, false, false, false, false, false, false, false, false, false, false, false, false, false, false, false] rfl rfl (any_of HT_.out (by kernel_rfl)) (fun _ _ _ h => h) (Or.inr ⟨by rfl, rfl⟩) ?_ ?_
     rotate_left
     ·simp only [Act.put, List.setIfInBounds_toArray, List.set_cons_zero, List.set_cons_succ, i64_w, i32_w]
      rfl
     refine pure_ (i := 7) (N := some 25) (v := undef) (a' := ?_) #[true, true, true, true, true, true, true, true, false, false, false, false, false, false, false, false, false, false, false, false, false, false, false] rfl rfl (any_of HT_.out (by kernel_rfl)) (fun _ _ _ h => h) (Or.inr ⟨by rfl, rfl⟩) ?_ ?_
     rotate_left
     ·simp only [Act.put, List.setIfInBounds_toArray, List.set_cons_zero, List.set_cons_succ, i64_w, i32_w]
      rfl
     refine pure_ (i := 8) (N := some 26) (v := undef) (a' := ?_) #[true, true, true, true, true, true, true, true, true, false, false, false, false, false, false, false, false, false, false, false, false, false, false] rfl rfl (any_of HT_.out (by kernel_rfl)) (fun _ _ _ h => h) (Or.inr ⟨by rfl, rfl⟩) ?_ ?_
     rotate_left
     ·simp only [Act.put, List.setIfInBounds_toArray, List.set_cons_zero, List.set_cons_succ, i64_w, i32_w]
      rfl
     refine pure_ (i := 9) (N := some 27) (v := undef) (a' := ?_) #[true, true, true, true, true, true, true, true, true, true, false, false, false, false, false, false, false, false, false, false, false, false, false] rfl rfl (any_of HT_.out (by kernel_rfl)) (fun _ _ _ h => h) (Or.inr ⟨by rfl, rfl⟩) ?_ ?_
     rotate_left
     ·simp only [Act.put, List.setIfInBounds_toArray, List.set_cons_zero, List.set_cons_succ, i64_w, i32_w]
      rfl
     refine pure_ (i := 10) (N := some 28) (v := undef) (a' := ?_) #[true, true, true, true, true, true, true, true, true, true, true, false, false, false, false, false, false, false, false, false, false, false, false] rfl rfl (any_of HT_.out (by kernel_rfl)) (fun _ _ _ h => h) (Or.inr ⟨by rfl, rfl⟩) ?_ ?_
     rotate_left
     ·simp only [Act.put, List.setIfInBounds_toArray, List.set_cons_zero, List.set_cons_succ, i64_w, i32_w]
      rfl
     refine pure_ (i := 11) (N := some 29) (v := undef) (a' := ?_) #[true, true, true, true, true, true, true, true, true, true, true, true, false, false, false, false, false, false, false, false, false, false, false] rfl rfl (any_of HT_.out (by kernel_rfl)) (fun _ _ _ h => h) (Or.inr ⟨by rfl, rfl⟩) ?_ ?_
     rotate_left
     ·simp only [Act.put, List.setIfInBounds_toArray, List.set_cons_zero, List.set_cons_succ, i64_w, i32_w]
      rfl
     refine pure_ (i := 12) (N := some 30) (v := undef) (a' := ?_) #[true, true, true, true, true, true, true, true, true, true, true, true, true, false, false, false, false, false, false, false, false, false, false] rfl rfl (any_of HT_.out (by kernel_rfl)) (fun _ _ _ h => h) (Or.inr ⟨by rfl, rfl⟩) ?_ ?_
     rotate_left
     ·simp only [Act.put, List.setIfInBounds_toArray, List.set_cons_zero, List.set_cons_succ, i64_w, i32_w]
      rfl
     refine pure_ (i := 13) (N := some 31) (v := undef) (a' := ?_) #[true, true, true, true, true, true, true, true, true, true, true, true, true, true, false, false, false, false, false, false, false, false, false] rfl rfl (any_of HT_.out (by kernel_rfl)) (fun _ _ _ h => h) (Or.inr ⟨by rfl, rfl⟩) ?_ ?_
     rotate_left
     ·simp only [Act.put, List.setIfInBounds_toArray, List.set_cons_zero, List.set_cons_succ, i64_w, i32_w]
      rfl
     refine pure_ (i := 14) (N := some 32) (v := undef) (a' := ?_) #[true, true, true, true, true, true, true, true, true, true, true, true, true, true, true, false, false, false, false, false, false, false, false] rfl rfl (any_of HT_.out (by kernel_rfl)) (fun _ _ _ h => h) (Or.inr ⟨by rfl, rfl⟩) ?_ ?_
     rotate_left
     ·simp only [Act.put, List.setIfInBounds_toArray, List.set_cons_zero, List.set_cons_succ, i64_w, i32_w]
      rfl
     refine pure_ (i := 15) (N := some 33) (v := undef) (a' := ?_) #[true, true, true, true, true, true, true, true, true, true, true, true, true, true, true, true, false, false, false, false, false, false, false] rfl rfl (any_of HT_.out (by kernel_rfl)) (fun _ _ _ h => h) (Or.inr ⟨by rfl, rfl⟩) ?_ ?_
     rotate_left
     ·simp only [Act.put, List.setIfInBounds_toArray, List.set_cons_zero, List.set_cons_succ, i64_w, i32_w]
      rfl
     refine pure_ (i := 16) (N := some 34) (v := undef) (a' := ?_) #[true, true, true, true, true, true, true, true, true, true, true, true, true, true, true, true, true, false, false, false, false, false, false] rfl rfl (any_of HT_.out (by kernel_rfl)) (fun _ _ _ h => h) (Or.inr ⟨by rfl, rfl⟩) ?_ ?_
     rotate_left
     ·simp only [Act.put, List.setIfInBounds_toArray, List.set_cons_zero, List.set_cons_succ, i64_w, i32_w]
      rfl
     refine pure_ (i := 17) (N := some 35) (v := undef) (a' := ?_) #[true, true, true, true, true, true, true, true, true, true, true, true, true, true, true, true, true, true, false, false, false, false, false] rfl rfl (any_of HT_.out (by kernel_rfl)) (fun _ _ _ h => h) (Or.inr ⟨by rfl, rfl⟩) ?_ ?_
     rotate_left
     ·simp only [Act.put, List.setIfInBounds_toArray, List.set_cons_zero, List.set_cons_succ, i64_w, i32_w]
      rfl
     refine pure_ (i := 18) (N := some 36) (v := undef) (a' := ?_) #[true, true, true, true, true, true, true, true, true, true, true, true, true, true, true, true, true, true, true, false, false, false, false] rfl rfl (any_of HT_.out (by kernel_rfl)) (fun _ _ _ h => h) (Or.inr ⟨by rfl, rfl⟩) ?_ ?_
     rotate_left
     ·simp only [Act.put, List.setIfInBounds_toArray, List.set_cons_zero, List.set_cons_succ, i64_w, i32_w]
      rfl
     refine pure_ (i := 19) (N := some 37) (v := undef) (a' := ?_) #[true, true, true, true, true, true, true, true, true, true, true, true, true, true, true, true, true, true, true, true, false, false, false] rfl rfl (any_of HT_.out (by kernel_rfl)) (fun _ _ _ h => h) (Or.inr ⟨by rfl, rfl⟩) ?_ ?_
     rotate_left
     ·simp only [Act.put, List.setIfInBounds_toArray, List.set_cons_zero, List.set_cons_succ, i64_w, i32_w]
      rfl
     refine pure_ (i := 20) (N := some 38) (v := undef) (a' := ?_) #[true, true, true, true, true, true, true, true, true, true, true, true, true, true, true, true, true, true, true, true, true, false, false] rfl rfl (any_of HT_.out (by kernel_rfl)) (fun _ _ _ h => h) (Or.inr ⟨by rfl, rfl⟩) ?_ ?_
     rotate_left
     ·simp only [Act.put, List.setIfInBounds_toArray, List.set_cons_zero, List.set_cons_succ, i64_w, i32_w]
      rfl
     refine pure_ (i := 21) (N := some 39) (v := undef) (a' := ?_) #[true, true, true, true, true, true, true, true, true, true, true, true, true, true, true, true, true, true, true, true, true, true, false] rfl rfl (any_of HT_.out (by kernel_rfl)) (fun _ _ _ h => h) (Or.inr ⟨by rfl, rfl⟩) ?_ ?_
     rotate_left
     ·simp only [Act.put, List.setIfInBounds_toArray, List.set_cons_zero, List.set_cons_succ, i64_w, i32_w]
      rfl
     refine pureZ_ (i := 22) (some 40) #[true, true, true, true, true, true, true, true, true, true, true, true, true, true, true, true, true, true, true, true, true, true, true] (any_of HT_.out (by kernel_rfl)) ?_
     refine done_ (done_of HT_.out (by kernel_rfl)) ?_
     try go_wp2
     go_roundg k1
     case measure => have := HK1.out; omega
     case rel => exact ⟨(x5_1), (wrap64 (x7_1 + 1)), rf_, H', ⟨by have := HK1.out; omega⟩, ⟨by (with_reducible repeat (first | apply Kd.R_alloc | apply Kd.R_drewN | apply Kd.R_drew)); exact HO_5.out⟩, ⟨by (with_reducible repeat (first | apply Kd.R_alloc | apply Kd.R_drewN | apply Kd.R_drew)); exact HO_6.out⟩, ⟨bk_ BK570⟩, ⟨bl_⟩⟩
   ·rw [if_neg c9] at H
    have c9b0 : decide (x7_1 < (l0.length : Int)) = false := decide_eq_false c9
    clear c9
    obtain rfl := Option.some.inj H
    go_wp2
    go_ret
    exact ⟨_, eq_, by (with_reducible repeat (first | apply Kd.R_alloc | apply Kd.R_drewN | apply Kd.R_drew)); exact HO_5.out, bl_⟩
end Go.Proofs.Ytjpjidgfcljpcaa.PA
