import Derived.Test.YtnoklfpnmopkpaaKPPEx2
import Derived.Test.YtnoklfpnmopkpaaKPPEx10
import Derived.Test.YtnoklfpnmopkpaaKPPEx22
-- printed by wip/tools
namespace Go.Proofs.Ytnoklfpnmopkpaa.PE
open Go.RowKit Go.Proofs.YtnoklfpnmopkpaaW.PrintWords Go.Proofs.YtnoklfpnmopkpaaW.PrintLast Go.Proofs.YtnoklfpnmopkpaaW.PrintMore
attribute [local go_sem] max2_int min2_int max_two min_two max_three min_three max_four min_four
set_option linter.unusedVariables false
set_option linter.unusedSimpArgs false
attribute [local go_sem high] eqA57
def impl_PolicyText.l0 : Nat → ByteArray → List (S57) → Int → Int → Option (ByteArray)
 | 0, _, _, _, _ => none
 | k + 1, x3, x14, x15, x16 => if x16 < x15 then (if 0 ≤ x16 then (if x16 < (x14.length : Int) then ((impl_varText.f k ((rd_T57 x14 x16).f0)).bind fun t801 => ((impl_varText.f k ((rd_T57 x14 x16).f1.f0)).bind fun t802 => (if t801.size + t802.size ≤ 9223372036854775807 then ((impl_varText.f k ((rd_T57 x14 x16).f1.f1)).bind fun t803 => (if (t801 ++ t802).size + t803.size ≤ 9223372036854775807 then ((impl_varText.f k ((rd_T57 x14 x16).f2)).bind fun t804 => (if ((t801 ++ t802) ++ t803).size + t804.size ≤ 9223372036854775807 then ((impl_varText.f k ((rd_T57 x14 x16).f3)).bind fun t805 => (if (((t801 ++ t802) ++ t803) ++ t804).size + t805.size ≤ 9223372036854775807 then (if x3.size + ((((t801 ++ t802) ++ t803) ++ t804) ++ t805).size ≤ 9223372036854775807 then (impl_PolicyText.l0 k (x3 ++ ((((t801 ++ t802) ++ t803) ++ t804) ++ t805)) x14 x15 (wrap64 (x16 + 1))) else (none)) else (none))) else (none))) else (none))) else (none)))) else (none)) else (none)) else (some x3)
def impl_PolicyText.f (k : Nat) (l0_0 : List (S57)) : Option (ByteArray) := (impl_PolicyOk.f k l0_0).bind fun t797 => (if t797 = true then ((impl_varText.f k (l0_0.length : Int)).bind fun t798 => (impl_PolicyText.l0 k t798 l0_0 (l0_0.length : Int) 0)) else (some (⟨#[]⟩ : ByteArray)))
def impl_PolicyText.T7 : Bool × List (List Nat × List Nat) := (true, [([], []), ([], []), ([1], [1]), ([2], [2]), ([], []), ([4], [4]), ([5], [5]), ([6, 3], [6]), ([3, 7], [3, 7]), ([], []), ([9], [9]), ([10], [10]), ([11, 7], [11]), ([8, 12], [8, 12]), ([], []), ([14], [14]), ([15, 12], [15]), ([13, 16], [13, 16]), ([], []), ([18], [18]), ([19, 16], [19]), ([17, 20], [17, 20]), ([0, 21], [0, 21]), ([22, 20, 0, 1, 2, 3, 4, 5, 6, 7, 8, 9, 10, 11, 12, 13, 14, 15, 16, 17, 18, 19, 20, 21, 22], [0, 22])])
def impl_PolicyText.B7 : List Nat := [0, 0, 2, 6, 0, 16, 48, 126, 254, 0, 512, 1536, 3838, 8190, 0, 16384, 57086, 131070, 0, 262144, 909054, 2097150, 4194303, 8388607]
theorem impl_PolicyText.tab7 : rtab .any (opsOf Try.f21 7) = impl_PolicyText.T7 := by kernel_rfl
theorem impl_PolicyText.bits7 : waitsOk impl_PolicyText.T7.2 impl_PolicyText.B7 = true := by kernel_rfl
set_option maxHeartbeats 8000000 in
set_option maxRecDepth 100000 in
theorem impl_PolicyText.calls (k : Nat) (A0_0 : Option Addr) (c0_0 : Nat) (l0_0 : List (S57)) (r : ByteArray) (w : World) (hr0_0 : Kd.C k57 w A0_0 l0_0.length l0_0) (hc0_0 : l0_0.length ≤ c0_0) (h : impl_PolicyText.f k l0_0 = some r) :
  Calls Try.prog 21 #[.agg #[.slice A0_0 l0_0.length c0_0]] w fun e w' => e = .returned (.string r) ∧ Below w.heap.size w w' := by
 have hu27 := Try.underlying27
 have hu57 := Try.underlying57
 have HR0_0 := aa_ hr0_0
 have HC0_0 := aa_ hc0_0
 clear hr0_0 hc0_0
 have HB := aa_ (Below.refl w.heap.size w)
 have H : ((impl_PolicyOk.f k l0_0).bind fun t797 => (if t797 = true then ((impl_varText.f k (l0_0.length : Int)).bind fun t798 => (impl_PolicyText.l0 k t798 l0_0 (l0_0.length : Int) 0)) else (some (⟨#[]⟩ : ByteArray)))) = some r := h
 clear h
 obtain ⟨t797, A2, H⟩ := bindE_ H
 have HC3 := aa_ H
 clear H
 go_enter Try.func21, Try.ntmps21
 go_upto_if 8 with (first | ((with_reducible refine gD_ 1 rfl ?_); refine bx_ (N := 1) (cs := #[.slice A0_0 l0_0.length c0_0]) (t := 27) ?_; intro gb796 hg w4 hbox hb; have BK796 := aa_ (hbox); have GW796 := gs_ hg; have GE796 := gs_ hg; replace HB := hbs_ hb; clear hb hbox hg; obtain ⟨hcz5, hfz5⟩ := bcf_ BK796) | ((with_reducible refine gC_ 14 rfl ?_); refine goesC_ (some 7) Try.func14 #[.agg #[.slice A0_0 l0_0.length c0_0]] ?_; (with_reducible refine (impl_PolicyOk.calls k _ _ l0_0 t797 _ ?side1 ?side2 A2.out).mono ?_); (case side1 => repeat (first | exact (Kd.C_below HR0_0.out HB.out) | (with_reducible refine Kd.C_alloc ?_ _) | (with_reducible refine Kd.C_drewN ?_ _) | (with_reducible refine Kd.C_drew ?_))); (case side2 => exact HC0_0.out); rintro e w6 ⟨rfl, hb⟩; refine ⟨_, rfl, ?_⟩; replace BK796 := bkb_ BK796 hb; replace HB := hbs_ hb; clear hb))
 (try simp only [Act.put, List.setIfInBounds_toArray, List.set_cons_zero, List.set_cons_succ])
 have H := HC3.out
 clear HC3
 by_cases c7 : t797 = true
 ·subst c7
  replace H := ite_t_ H
  obtain ⟨t798, A8, H⟩ := bindE_ H
  have H' := aa_ H
  clear H
  have hcz9 := blk_cell BK796.out
  have hfz9 := blk_frozen BK796.out
  go_wp2_with (first | ((with_reducible refine gC_ 46 rfl ?_); refine goesC_ (some 12) Try.func46 #[.int .i64 (l0_0.length : Int)] ?_; (with_reducible refine (impl_varText.calls k (l0_0.length : Int) t798 _ A8.out).mono ?_); rintro e w10 ⟨rfl, hb⟩; refine ⟨_, rfl, ?_⟩; replace BK796 := bkb_ BK796 hb; replace HB := hbs_ hb; clear hb; obtain ⟨hcz11, hfz11⟩ := bcf_ BK796))
  go_loopg [3, 16] k (fun kq v3 v16 w' => ∃ (x3_1 : ByteArray) (x16_1 : Int), v3 = .string x3_1 ∧ v16 = .int .i64 x16_1 ∧ Aside0 (impl_PolicyText.l0 kq x3_1 l0_0 (l0_0.length : Int) x16_1 = some r) ∧ Aside0 (kq ≤ k) ∧ Aside0 (w'.heap[gb796]? = some (.cells #[(.slice A0_0 l0_0.length c0_0)] 27 (0, 0))) ∧ Aside0 (Below w.heap.size w w'))
  case atStart => exact ⟨(t798), (0), rf_, rf_, H', ⟨Nat.le_refl _⟩, ⟨bk_ BK796⟩, ⟨bl_⟩⟩
  case round =>
   clear H'
   try clear c1
   try clear c2
   try clear p2
   try clear c4
   try clear c7
   try clear hcz11
   try clear hcz5
   try clear hcz9
   try clear hfz11
   try clear hfz5
   try clear hfz9
   obtain ⟨x3_1, x16_1, rfl, rfl, HA, HK1, BK796, HB⟩ := hrel
   cases gk with
   | zero => exact absurd HA.out (by simp [impl_PolicyText.l0])
   | succ k1 =>
    have H := HA.out
    clear HA
    simp only [impl_PolicyText.l0] at H
    by_cases c12 : x16_1 < (l0_0.length : Int)
    ·rw [if_pos c12] at H
     have c12b0 : decide (x16_1 < (l0_0.length : Int)) = true := decide_eq_true c12
     clear c12
     (first | rw [c12b0] | (simp only [i64_w, i32_w]; rw [c12b0]) | (have cz_ := c12b0; simp only [Int.ofNat_lt, Int.ofNat_le, gt_iff_lt, ge_iff_le] at cz_; rw [cz_]; clear cz_) | skip)
     obtain ⟨c13b0, H⟩ := ifd_ H
     obtain ⟨c14b0, H⟩ := ifd_ H
     obtain ⟨t801, A15, H⟩ := bindE_ H
     obtain ⟨t802, A16, H⟩ := bindE_ H
     obtain ⟨c17, H⟩ := ifn_ H
     have c17b0 := eq_true c17
     have c17b1 : decide (t801.size + t802.size ≤ 9223372036854775807) = true := decide_eq_true c17
     try have c17b2 : (9223372036854775807 < t801.size + t802.size) = False := eq_false (Nat.not_lt.2 c17)
     obtain ⟨t803, A18, H⟩ := bindE_ H
     obtain ⟨c19, H⟩ := ifn_ H
     have c19b0 := eq_true c19
     have c19b1 : decide ((t801 ++ t802).size + t803.size ≤ 9223372036854775807) = true := decide_eq_true c19
     try have c19b2 : (9223372036854775807 < (t801 ++ t802).size + t803.size) = False := eq_false (Nat.not_lt.2 c19)
     (try (have c19b3 := c19b2; simp only [ByteArray.size_append] at c19b3)); (try (have c19b4 := c19b0; simp only [ByteArray.size_append] at c19b4))
     obtain ⟨t804, A20, H⟩ := bindE_ H
     obtain ⟨c21, H⟩ := ifn_ H
     have c21b0 := eq_true c21
     have c21b1 : decide (((t801 ++ t802) ++ t803).size + t804.size ≤ 9223372036854775807) = true := decide_eq_true c21
     try have c21b2 : (9223372036854775807 < ((t801 ++ t802) ++ t803).size + t804.size) = False := eq_false (Nat.not_lt.2 c21)
     (try (have c21b3 := c21b2; simp only [ByteArray.size_append] at c21b3)); (try (have c21b4 := c21b0; simp only [ByteArray.size_append] at c21b4))
     obtain ⟨t805, A22, H⟩ := bindE_ H
     obtain ⟨c23, H⟩ := ifn_ H
     have c23b0 := eq_true c23
     have c23b1 : decide ((((t801 ++ t802) ++ t803) ++ t804).size + t805.size ≤ 9223372036854775807) = true := decide_eq_true c23
     try have c23b2 : (9223372036854775807 < (((t801 ++ t802) ++ t803) ++ t804).size + t805.size) = False := eq_false (Nat.not_lt.2 c23)
     (try (have c23b3 := c23b2; simp only [ByteArray.size_append] at c23b3)); (try (have c23b4 := c23b0; simp only [ByteArray.size_append] at c23b4))
     obtain ⟨c24, H⟩ := ifn_ H
     have c24b0 := eq_true c24
     have c24b1 : decide (x3_1.size + ((((t801 ++ t802) ++ t803) ++ t804) ++ t805).size ≤ 9223372036854775807) = true := decide_eq_true c24
     try have c24b2 : (9223372036854775807 < x3_1.size + ((((t801 ++ t802) ++ t803) ++ t804) ++ t805).size) = False := eq_false (Nat.not_lt.2 c24)
     (try (have c24b3 := c24b2; simp only [ByteArray.size_append] at c24b3)); (try (have c24b4 := c24b0; simp only [ByteArray.size_append] at c24b4))
     have H' := aa_ H
     clear H
     have p799 : 0 ≤ (x16_1 : Int) := od_
     have q799 : x16_1 < (l0_0.length : Int) := od_
     obtain ⟨ad799, e799, hx799_0, hx799_1, hx799_2, hx799_3, hx799_4⟩ := at_T57 (Kd.C_below HR0_0.out HB.out) x16_1 p799 q799
     cases e799
     replace p799 := eq_true p799
     replace q799 := eq_true q799
     try go_wp2_with (first | ((with_reducible refine gD_ 5 rfl ?_); refine bx_ (N := 5) (cs := #[.int .i64 0, .int .i64 0, .int .i64 0, .int .i64 0, .int .i64 0]) (t := 57) ?_; intro gb800 hg w25 hbox hb; have BK800 := aa_ (hbox); have GW800 := gs_ hg; have GE800 := gs_ hg; replace HB := hbs_ hb; have NB796_800 := nl_ hg BK796; have NB800_796 := nr_ hg BK796; replace BK796 := bkb_ BK796 hb; clear hb hbox hg; have hnb26 := NB800_796.out; have hnc26 := NB796_800.out; obtain ⟨hcz27, hfz27⟩ := bcf_ BK800))
     have n0_ : Aside0 ((((((w25.setCell ⟨gb800, 0, none⟩ (.int .i64 ((rd_T57 l0_0 x16_1).f0))).setCell ⟨gb800, 1, none⟩ (.int .i64 ((rd_T57 l0_0 x16_1).f1.f0))).setCell ⟨gb800, 2, none⟩ (.int .i64 ((rd_T57 l0_0 x16_1).f1.f1))).setCell ⟨gb800, 3, none⟩ (.int .i64 ((rd_T57 l0_0 x16_1).f2))).setCell ⟨gb800, 4, none⟩ (.int .i64 ((rd_T57 l0_0 x16_1).f3))).heap[gb796]? = some (.cells #[.slice (some ad799) l0_0.length c0_0] 27 (0, 0))) := ⟨bk_ BK796⟩
     have n1_ : Aside0 ((((((w25.setCell ⟨gb800, 0, none⟩ (.int .i64 ((rd_T57 l0_0 x16_1).f0))).setCell ⟨gb800, 1, none⟩ (.int .i64 ((rd_T57 l0_0 x16_1).f1.f0))).setCell ⟨gb800, 2, none⟩ (.int .i64 ((rd_T57 l0_0 x16_1).f1.f1))).setCell ⟨gb800, 3, none⟩ (.int .i64 ((rd_T57 l0_0 x16_1).f2))).setCell ⟨gb800, 4, none⟩ (.int .i64 ((rd_T57 l0_0 x16_1).f3))).heap[gb800]? = some (.cells #[.int .i64 ((rd_T57 l0_0 x16_1).f0), .int .i64 ((rd_T57 l0_0 x16_1).f1.f0), .int .i64 ((rd_T57 l0_0 x16_1).f1.f1), .int .i64 ((rd_T57 l0_0 x16_1).f2), .int .i64 ((rd_T57 l0_0 x16_1).f3)] 57 (0, 0))) := ⟨bk_ BK800⟩
     have n2_ : Aside0 (Below w.heap.size w (((((w25.setCell ⟨gb800, 0, none⟩ (.int .i64 ((rd_T57 l0_0 x16_1).f0))).setCell ⟨gb800, 1, none⟩ (.int .i64 ((rd_T57 l0_0 x16_1).f1.f0))).setCell ⟨gb800, 2, none⟩ (.int .i64 ((rd_T57 l0_0 x16_1).f1.f1))).setCell ⟨gb800, 3, none⟩ (.int .i64 ((rd_T57 l0_0 x16_1).f2))).setCell ⟨gb800, 4, none⟩ (.int .i64 ((rd_T57 l0_0 x16_1).f3)))) := ⟨bl_⟩
     (try clear BK796)
     (try clear BK800)
     (try clear HB)
     generalize (((((w25.setCell ⟨gb800, 0, none⟩ (.int .i64 ((rd_T57 l0_0 x16_1).f0))).setCell ⟨gb800, 1, none⟩ (.int .i64 ((rd_T57 l0_0 x16_1).f1.f0))).setCell ⟨gb800, 2, none⟩ (.int .i64 ((rd_T57 l0_0 x16_1).f1.f1))).setCell ⟨gb800, 3, none⟩ (.int .i64 ((rd_T57 l0_0 x16_1).f2))).setCell ⟨gb800, 4, none⟩ (.int .i64 ((rd_T57 l0_0 x16_1).f3))) = w28 at n0_ n1_ n2_ ⊢
     have BK796 := n0_
     have BK800 := n1_
     have HB := n2_
     clear n0_ n1_ n2_
     replace BK796 := aa_ (blk_drew BK796.out)
     replace BK800 := aa_ (blk_drew BK800.out)
     replace HB := aa_ (below_drew1 HB.out)
     refine start_ (n := 24) (S := fun w' => w'.cell? ⟨gb800, 0, none⟩ = some (.int .i64 ((rd_T57 l0_0 x16_1).f0)) ∧ w'.cell? ⟨gb800, 1, none⟩ = some (.int .i64 ((rd_T57 l0_0 x16_1).f1.f0)) ∧ w'.cell? ⟨gb800, 2, none⟩ = some (.int .i64 ((rd_T57 l0_0 x16_1).f1.f1)) ∧ w'.cell? ⟨gb800, 3, none⟩ = some (.int .i64 ((rd_T57 l0_0 x16_1).f2)) ∧ w'.cell? ⟨gb800, 4, none⟩ = some (.int .i64 ((rd_T57 l0_0 x16_1).f3))) (ds := []) (ba_ 24 0) (by kernel_rfl) rfl rfl ⟨(blk_cell BK800.out 0).trans rfl, (blk_cell BK800.out 1).trans rfl, (blk_cell BK800.out 2).trans rfl, (blk_cell BK800.out 3).trans rfl, (blk_cell BK800.out 4).trans rfl⟩ (fun hHeld => ?_); refine with_tabW impl_PolicyText.tab7 impl_PolicyText.bits7 (fun HT_ HW_ => ?_)
     generalize w28.drew = w29 at BK796 BK800 HB hHeld ⊢
     refine pureZ_ (i := 0) (some 20) (ba_ 24 1) (ao_ HT_) ?_
     refine pureZ_ (i := 1) (some 21) (ba_ 24 3) (ao_ HT_) ?_
     refine pureZ_ (i := 4) (some 24) (ba_ 24 19) (ao_ HT_) ?_
     refine pureZ_ (i := 5) (some 25) (ba_ 24 51) (ao_ HT_) ?_
     refine pureZ_ (i := 9) (some 29) (ba_ 24 563) (ao_ HT_) ?_
     refine pureZ_ (i := 10) (some 30) (ba_ 24 1587) (ao_ HT_) ?_
     refine pureZ_ (i := 14) (some 34) (ba_ 24 17971) (ao_ HT_) ?_
     refine pureZ_ (i := 18) (some 38) (ba_ 24 280115) (ao_ HT_) ?_
     refine takeZ_ (i := 2) (some 22) (ba_ 24 280119) (take_ofW HT_.out HW_.out (by kernel_rfl)) hHeld ?_
     refine takeZ_ (i := 6) (some 26) (ba_ 24 280183) (take_ofW HT_.out HW_.out (by kernel_rfl)) hHeld ?_
     refine takeZ_ (i := 11) (some 31) (ba_ 24 282231) (take_ofW HT_.out HW_.out (by kernel_rfl)) hHeld ?_
     refine takeZ_ (i := 15) (some 35) (ba_ 24 314999) (take_ofW HT_.out HW_.out (by kernel_rfl)) hHeld ?_
     refine takeZ_ (i := 19) (some 39) (ba_ 24 839287) (take_ofW HT_.out HW_.out (by kernel_rfl)) hHeld ?_
     refine one_ (i := 3) (N := some 23) (ba_ 24 839295) rfl rfl (one_of HT_.out (by kernel_rfl)) (by decide) (fun K hK => ?_)
     refine goes_ Try.func46 (by kernel_rfl) rfl #[.int .i64 ((rd_T57 l0_0 x16_1).f0)] (by rfl) rfl rfl (by (try simp only [List.map_toArray, List.map_cons, List.map_nil]); first | done | rfl | (simp only [List.length_drop, List.length_take]; rfl)) ?_
     with_reducible refine (impl_varText.calls k1 ((rd_T57 l0_0 x16_1).f0) t801 _ A15.out).mono ?_
     rintro e w30 ⟨rfl, hb⟩
     refine ⟨_, rfl, ?_⟩
     replace BK796 := bkb_ BK796 hb
     replace BK800 := bkb_ BK800 hb
     replace HB := hbs_ hb
     (try clear hb)
     (try clear hb2)
     (try clear hk)
     (try clear hi)
     refine hK.out _ _ ⟨(blk_cell BK800.out 0).trans rfl, (blk_cell BK800.out 1).trans rfl, (blk_cell BK800.out 2).trans rfl, (blk_cell BK800.out 3).trans rfl, (blk_cell BK800.out 4).trans rfl⟩ (fun hHeld => ?_)
     clear hK K
     refine norm_ (a' := ?_) ?_ ?_
     rotate_left
     ·show Act.put _ (some 23) _ = _
      simp only [Act.put, List.setIfInBounds_toArray, List.set_cons_zero, List.set_cons_succ, i64_w, i32_w]
      rfl
     refine one_ (i := 7) (N := some 27) (ba_ 24 839423) rfl rfl (one_of HT_.out (by kernel_rfl)) (by decide) (fun K hK => ?_)
     refine goes_ Try.func46 (by kernel_rfl) rfl #[.int .i64 ((rd_T57 l0_0 x16_1).f1.f0)] (by rfl) rfl rfl (by (try simp only [List.map_toArray, List.map_cons, List.map_nil]); first | done | rfl | (simp only [List.length_drop, List.length_take]; rfl)) ?_
     with_reducible refine (impl_varText.calls k1 ((rd_T57 l0_0 x16_1).f1.f0) t802 _ A16.out).mono ?_
     rintro e w31 ⟨rfl, hb⟩
     refine ⟨_, rfl, ?_⟩
     replace BK796 := bkb_ BK796 hb
     replace BK800 := bkb_ BK800 hb
     replace HB := hbs_ hb
     (try clear hb)
     (try clear hb2)
     (try clear hk)
     (try clear hi)
     refine hK.out _ _ ⟨(blk_cell BK800.out 0).trans rfl, (blk_cell BK800.out 1).trans rfl, (blk_cell BK800.out 2).trans rfl, (blk_cell BK800.out 3).trans rfl, (blk_cell BK800.out 4).trans rfl⟩ (fun hHeld => ?_)
     clear hK K
     refine norm_ (a' := ?_) ?_ ?_
     rotate_left
     ·show Act.put _ (some 27) _ = _
      simp only [Act.put, List.setIfInBounds_toArray, List.set_cons_zero, List.set_cons_succ, i64_w, i32_w]
      rfl
     refine pureZ_ (i := 8) (some 28) (ba_ 24 839679) (ao_ HT_) ?_
     refine one_ (i := 12) (N := some 32) (ba_ 24 843775) rfl rfl (one_of HT_.out (by kernel_rfl)) (by decide) (fun K hK => ?_)
     refine goes_ Try.func46 (by kernel_rfl) rfl #[.int .i64 ((rd_T57 l0_0 x16_1).f1.f1)] (by rfl) rfl rfl (by (try simp only [List.map_toArray, List.map_cons, List.map_nil]); first | done | rfl | (simp only [List.length_drop, List.length_take]; rfl)) ?_
     with_reducible refine (impl_varText.calls k1 ((rd_T57 l0_0 x16_1).f1.f1) t803 _ A18.out).mono ?_
     rintro e w32 ⟨rfl, hb⟩
     refine ⟨_, rfl, ?_⟩
     replace BK796 := bkb_ BK796 hb
     replace BK800 := bkb_ BK800 hb
     replace HB := hbs_ hb
     (try clear hb)
     (try clear hb2)
     (try clear hk)
     (try clear hi)
     refine hK.out _ _ ⟨(blk_cell BK800.out 0).trans rfl, (blk_cell BK800.out 1).trans rfl, (blk_cell BK800.out 2).trans rfl, (blk_cell BK800.out 3).trans rfl, (blk_cell BK800.out 4).trans rfl⟩ (fun hHeld => ?_)
     clear hK K
     refine norm_ (a' := ?_) ?_ ?_
     rotate_left
     ·show Act.put _ (some 32) _ = _
      simp only [Act.put, List.setIfInBounds_toArray, List.set_cons_zero, List.set_cons_succ, i64_w, i32_w]
      rfl
     refine pureZ_ (i := 13) (some 33) (ba_ 24 851967) (ao_ HT_) ?_
     refine one_ (i := 16) (N := some 36) (ba_ 24 917503) rfl rfl (one_of HT_.out (by kernel_rfl)) (by decide) (fun K hK => ?_)
     refine goes_ Try.func46 (by kernel_rfl) rfl #[.int .i64 ((rd_T57 l0_0 x16_1).f2)] (by rfl) rfl rfl (by (try simp only [List.map_toArray, List.map_cons, List.map_nil]); first | done | rfl | (simp only [List.length_drop, List.length_take]; rfl)) ?_
     with_reducible refine (impl_varText.calls k1 ((rd_T57 l0_0 x16_1).f2) t804 _ A20.out).mono ?_
     rintro e w33 ⟨rfl, hb⟩
     refine ⟨_, rfl, ?_⟩
     replace BK796 := bkb_ BK796 hb
     replace BK800 := bkb_ BK800 hb
     replace HB := hbs_ hb
     (try clear hb)
     (try clear hb2)
     (try clear hk)
     (try clear hi)
     refine hK.out _ _ ⟨(blk_cell BK800.out 0).trans rfl, (blk_cell BK800.out 1).trans rfl, (blk_cell BK800.out 2).trans rfl, (blk_cell BK800.out 3).trans rfl, (blk_cell BK800.out 4).trans rfl⟩ (fun hHeld => ?_)
     clear hK K
     refine norm_ (a' := ?_) ?_ ?_
     rotate_left
     ·show Act.put _ (some 36) _ = _
      simp only [Act.put, List.setIfInBounds_toArray, List.set_cons_zero, List.set_cons_succ, i64_w, i32_w]
      rfl
     refine pureZ_ (i := 17) (some 37) (ba_ 24 1048575) (ao_ HT_) ?_
     refine one_ (i := 20) (N := some 40) (ba_ 24 2097151) rfl rfl (one_of HT_.out (by kernel_rfl)) (by decide) (fun K hK => ?_)
     refine goes_ Try.func46 (by kernel_rfl) rfl #[.int .i64 ((rd_T57 l0_0 x16_1).f3)] (by rfl) rfl rfl (by (try simp only [List.map_toArray, List.map_cons, List.map_nil]); first | done | rfl | (simp only [List.length_drop, List.length_take]; rfl)) ?_
     with_reducible refine (impl_varText.calls k1 ((rd_T57 l0_0 x16_1).f3) t805 _ A22.out).mono ?_
     rintro e w34 ⟨rfl, hb⟩
     refine ⟨_, rfl, ?_⟩
     replace BK796 := bkb_ BK796 hb
     replace BK800 := bkb_ BK800 hb
     replace HB := hbs_ hb
     (try clear hb)
     (try clear hb2)
     (try clear hk)
     (try clear hi)
     refine hK.out _ _ ⟨(blk_cell BK800.out 0).trans rfl, (blk_cell BK800.out 1).trans rfl, (blk_cell BK800.out 2).trans rfl, (blk_cell BK800.out 3).trans rfl, (blk_cell BK800.out 4).trans rfl⟩ (fun hHeld => ?_)
     clear hK K
     refine norm_ (a' := ?_) ?_ ?_
     rotate_left
     ·show Act.put _ (some 40) _ = _
      simp only [Act.put, List.setIfInBounds_toArray, List.set_cons_zero, List.set_cons_succ, i64_w, i32_w]
      rfl
     refine pureZ_ (i := 21) (some 41) (ba_ 24 4194303) (ao_ HT_) ?_
     refine pureZ_ (i := 22) (some 42) (ba_ 24 8388607) (ao_ HT_) ?_
     refine pureZ_ (i := 23) (some 3) (ba_ 24 16777215) (ao_ HT_) ?_
     refine done_ (done_of HT_.out (by kernel_rfl)) ?_
     try go_wp2
     go_roundg k1
     case measure => have := HK1.out; omega
     case rel => exact ⟨(x3_1 ++ ((((t801 ++ t802) ++ t803) ++ t804) ++ t805)), (wrap64 (x16_1 + 1)), rf_, rf_, H', ⟨by have := HK1.out; omega⟩, ⟨bk_ BK796⟩, ⟨bl_⟩⟩
    ·rw [if_neg c12] at H
     have c12b0 : decide (x16_1 < (l0_0.length : Int)) = false := decide_eq_false c12
     clear c12
     (first | rw [c12b0] | (simp only [i64_w, i32_w]; rw [c12b0]) | (have cz_ := c12b0; simp only [Int.ofNat_lt, Int.ofNat_le, gt_iff_lt, ge_iff_le] at cz_; rw [cz_]; clear cz_) | skip)
     obtain rfl := Option.some.inj H
     go_wp2
     go_ret
     exact ⟨eq_, bl_⟩
 ·replace c7 := Bool.eq_false_iff.mpr c7
  subst c7
  replace H := ite_f_ H
  obtain rfl := Option.some.inj H
  go_wp2
  go_ret
  exact ⟨eq_, bl_⟩
def laws_samePolicy.l0 : Nat → Int → List (S57) → List (S57) → Option (Bool)
 | 0, _, _, _ => none
 | k + 1, x5, x807000, x808000 => if x5 < (x807000.length : Int) then (if 0 ≤ x5 then (if x5 < (x808000.length : Int) then (if (!(((rd_T57 x807000 x5).f0) == ((rd_T57 x808000 x5).f0)) || ((!(((rd_T57 x807000 x5).f1.f0) == ((rd_T57 x808000 x5).f1.f0)) || (!(((rd_T57 x807000 x5).f1.f1) == ((rd_T57 x808000 x5).f1.f1)))) || (!(((rd_T57 x807000 x5).f2) == ((rd_T57 x808000 x5).f2)) || (!(((rd_T57 x807000 x5).f3) == ((rd_T57 x808000 x5).f3)))))) = true then (some false) else (laws_samePolicy.l0 k (wrap64 (x5 + 1)) x807000 x808000)) else (none)) else (none)) else (some true)
def laws_samePolicy.f (k : Nat) (l0_0 : List (S57)) (l1_0 : List (S57)) : Option (Bool) := if (l0_0.length : Int) = (l1_0.length : Int) then (laws_samePolicy.l0 k 0 l0_0 l1_0) else (some false)
set_option maxHeartbeats 8000000 in
set_option maxRecDepth 100000 in
theorem laws_samePolicy.calls (k : Nat) (A0_0 : Option Addr) (c0_0 : Nat) (l0_0 : List (S57)) (A1_0 : Option Addr) (c1_0 : Nat) (l1_0 : List (S57)) (r : Bool) (w : World) (hr0_0 : Kd.C k57 w A0_0 l0_0.length l0_0) (hc0_0 : l0_0.length ≤ c0_0) (hr1_0 : Kd.C k57 w A1_0 l1_0.length l1_0) (hc1_0 : l1_0.length ≤ c1_0) (h : laws_samePolicy.f k l0_0 l1_0 = some r) :
  Calls Try.prog 23 #[.agg #[.slice A0_0 l0_0.length c0_0], .agg #[.slice A1_0 l1_0.length c1_0]] w fun e w' => e = .returned (.bool r) ∧ Below w.heap.size w w' := by
 have hu27 := Try.underlying27
 have hu57 := Try.underlying57
 have HR0_0 := aa_ hr0_0
 have HC0_0 := aa_ hc0_0
 clear hr0_0 hc0_0
 have HR1_0 := aa_ hr1_0
 have HC1_0 := aa_ hc1_0
 clear hr1_0 hc1_0
 have HB := aa_ (Below.refl w.heap.size w)
 have H : (if (l0_0.length : Int) = (l1_0.length : Int) then (laws_samePolicy.l0 k 0 l0_0 l1_0) else (some false)) = some r := h
 clear h
 have HC3 := aa_ H
 clear H
 go_enter Try.func23, Try.ntmps23
 go_upto_if 12 with (first | ((with_reducible refine gD_ 2 rfl ?_); refine bx_ (N := 2) (cs := #[.slice A0_0 l0_0.length c0_0]) (t := 27) ?_; intro gb806 hg w4 hbox hb; have BK806 := aa_ (hbox); have GW806 := gs_ hg; have GE806 := gs_ hg; replace HB := hbs_ hb; clear hb hbox hg) | ((with_reducible refine gD_ 3 rfl ?_); refine bx_ (N := 3) (cs := #[.slice A1_0 l1_0.length c1_0]) (t := 27) ?_; intro gb807 hg w5 hbox hb; have BK807 := aa_ (hbox); have GW807 := gs_ hg; have GE807 := gs_ hg; replace HB := hbs_ hb; have NB806_807 := nl_ hg BK806; have NB807_806 := nr_ hg BK806; replace BK806 := bkb_ BK806 hb; clear hb hbox hg; have hnb6 := NB806_807.out; have hnc6 := NB807_806.out; obtain ⟨hcz7, hfz7⟩ := bcf_ BK806; obtain ⟨hcz8, hfz8⟩ := bcf_ BK807))
 repeat (go_quiet (first | ((with_reducible refine gD_ 2 rfl ?_); refine bx_ (N := 2) (cs := #[.slice A0_0 l0_0.length c0_0]) (t := 27) ?_; intro gb806 hg w4 hbox hb; have BK806 := aa_ (hbox); have GW806 := gs_ hg; have GE806 := gs_ hg; replace HB := hbs_ hb; clear hb hbox hg) | ((with_reducible refine gD_ 3 rfl ?_); refine bx_ (N := 3) (cs := #[.slice A1_0 l1_0.length c1_0]) (t := 27) ?_; intro gb807 hg w5 hbox hb; have BK807 := aa_ (hbox); have GW807 := gs_ hg; have GE807 := gs_ hg; replace HB := hbs_ hb; have NB806_807 := nl_ hg BK806; have NB807_806 := nr_ hg BK806; replace BK806 := bkb_ BK806 hb; clear hb hbox hg; have hnb6 := NB806_807.out; have hnc6 := NB807_806.out; obtain ⟨hcz7, hfz7⟩ := bcf_ BK806; obtain ⟨hcz8, hfz8⟩ := bcf_ BK807)); go_upto_if 12 with (first | ((with_reducible refine gD_ 2 rfl ?_); refine bx_ (N := 2) (cs := #[.slice A0_0 l0_0.length c0_0]) (t := 27) ?_; intro gb806 hg w4 hbox hb; have BK806 := aa_ (hbox); have GW806 := gs_ hg; have GE806 := gs_ hg; replace HB := hbs_ hb; clear hb hbox hg) | ((with_reducible refine gD_ 3 rfl ?_); refine bx_ (N := 3) (cs := #[.slice A1_0 l1_0.length c1_0]) (t := 27) ?_; intro gb807 hg w5 hbox hb; have BK807 := aa_ (hbox); have GW807 := gs_ hg; have GE807 := gs_ hg; replace HB := hbs_ hb; have NB806_807 := nl_ hg BK806; have NB807_806 := nr_ hg BK806; replace BK806 := bkb_ BK806 hb; clear hb hbox hg; have hnb6 := NB806_807.out; have hnc6 := NB807_806.out; obtain ⟨hcz7, hfz7⟩ := bcf_ BK806; obtain ⟨hcz8, hfz8⟩ := bcf_ BK807)))
 (try simp only [Act.put, List.setIfInBounds_toArray, List.set_cons_zero, List.set_cons_succ])
 have H := HC3.out
 clear HC3
 by_cases c9 : (l0_0.length : Int) = (l1_0.length : Int)
 ·rw [if_pos c9] at H
  have c9b0 : ((l0_0.length : Int) == (l1_0.length : Int)) = true := beq_iff_eq.mpr c9
  have c9b1 : ((l0_0.length : Int) != (l1_0.length : Int)) = false := bne_eq_false_iff_eq.mpr c9
  have c9b2 : (l0_0.length == l1_0.length) = true := by first | simpa using c9 | (simp at c9 ⊢; omega)
  clear c9
  (first | rw [c9b0] | (simp only [i64_w, i32_w]; rw [c9b0]) | (have cz_ := c9b0; simp only [Int.ofNat_lt, Int.ofNat_le, gt_iff_lt, ge_iff_le] at cz_; rw [cz_]; clear cz_) | skip)
  have H' := aa_ H
  clear H
  go_wp2
  repeat (go_quiet (fail); try go_wp2)
  go_loopg [5] k (fun kq v5 w' => ∃ (x5_1 : Int), v5 = .int .i64 x5_1 ∧ Aside0 (laws_samePolicy.l0 kq x5_1 l0_0 l1_0 = some r) ∧ Aside0 (kq ≤ k) ∧ Aside0 (w'.heap[gb806]? = some (.cells #[(.slice A0_0 l0_0.length c0_0)] 27 (0, 0))) ∧ Aside0 (w'.heap[gb807]? = some (.cells #[(.slice A1_0 l1_0.length c1_0)] 27 (0, 0))) ∧ Aside0 (Below w.heap.size w w'))
  case atStart => exact ⟨(0), rf_, H', ⟨Nat.le_refl _⟩, ⟨bk_ BK806⟩, ⟨bk_ BK807⟩, ⟨bl_⟩⟩
  case round =>
   clear H'
   try clear c1
   try clear c2
   try clear p2
   try clear c6
   try clear c9
   try clear c9b0
   try clear c9b1
   try clear c9b2
   try clear hcz7
   try clear hcz8
   try clear hfz7
   try clear hfz8
   obtain ⟨x5_1, rfl, HA, HK1, BK806, BK807, HB⟩ := hrel
   cases gk with
   | zero => exact absurd HA.out (by simp [laws_samePolicy.l0])
   | succ k1 =>
    have H := HA.out
    clear HA
    simp only [laws_samePolicy.l0] at H
    by_cases c10 : x5_1 < (l0_0.length : Int)
    ·rw [if_pos c10] at H
     have c10b0 : decide (x5_1 < (l0_0.length : Int)) = true := decide_eq_true c10
     clear c10
     obtain ⟨c11b0, H⟩ := ifd_ H
     obtain ⟨c12b0, H⟩ := ifd_ H
     have HC13 := aa_ H
     clear H
     have hnb14 := NB806_807.out
     have hnc14 := NB807_806.out
     have hcz15 := blk_cell BK806.out
     have hfz15 := blk_frozen BK806.out
     have p808 : 0 ≤ (x5_1 : Int) := od_
     have q808 : x5_1 < (l0_0.length : Int) := od_
     obtain ⟨ad808, e808, hx808_0, hx808_1, hx808_2, hx808_3, hx808_4⟩ := at_T57 (Kd.C_below HR0_0.out HB.out) x5_1 p808 q808
     cases e808
     replace p808 := eq_true p808
     replace q808 := eq_true q808
     have hcz16 := blk_cell BK807.out
     have hfz16 := blk_frozen BK807.out
     have p809 : 0 ≤ (x5_1 : Int) := od_
     have q809 : x5_1 < (l1_0.length : Int) := od_
     obtain ⟨ad809, e809, hx809_0, hx809_1, hx809_2, hx809_3, hx809_4⟩ := at_T57 (Kd.C_below HR1_0.out HB.out) x5_1 p809 q809
     cases e809
     replace p809 := eq_true p809
     replace q809 := eq_true q809
     go_upto_if 30 with (fail)
     repeat (go_quiet (fail); go_upto_if 30 with (fail))
     have H := HC13.out
     clear HC13
     by_cases c17 : (!(((rd_T57 l0_0 x5_1).f0) == ((rd_T57 l1_0 x5_1).f0)) || ((!(((rd_T57 l0_0 x5_1).f1.f0) == ((rd_T57 l1_0 x5_1).f1.f0)) || (!(((rd_T57 l0_0 x5_1).f1.f1) == ((rd_T57 l1_0 x5_1).f1.f1)))) || (!(((rd_T57 l0_0 x5_1).f2) == ((rd_T57 l1_0 x5_1).f2)) || (!(((rd_T57 l0_0 x5_1).f3) == ((rd_T57 l1_0 x5_1).f3)))))) = true
     ·rw [if_pos c17] at H
      have c17b0 : (!(((rd_T57 l0_0 x5_1).f0) == ((rd_T57 l1_0 x5_1).f0)) || ((!(((rd_T57 l0_0 x5_1).f1.f0) == ((rd_T57 l1_0 x5_1).f1.f0)) || (!(((rd_T57 l0_0 x5_1).f1.f1) == ((rd_T57 l1_0 x5_1).f1.f1)))) || (!(((rd_T57 l0_0 x5_1).f2) == ((rd_T57 l1_0 x5_1).f2)) || (!(((rd_T57 l0_0 x5_1).f3) == ((rd_T57 l1_0 x5_1).f3)))))) = true := c17
      clear c17
      (first | rw [c17b0] | (simp only [i64_w, i32_w]; rw [c17b0]) | skip)
      obtain rfl := Option.some.inj H
      go_wp2
      repeat (go_quiet (fail); try go_wp2)
      go_ret
      exact ⟨eq_, bl_⟩
     ·rw [if_neg c17] at H
      have c17b0 : (!(((rd_T57 l0_0 x5_1).f0) == ((rd_T57 l1_0 x5_1).f0)) || ((!(((rd_T57 l0_0 x5_1).f1.f0) == ((rd_T57 l1_0 x5_1).f1.f0)) || (!(((rd_T57 l0_0 x5_1).f1.f1) == ((rd_T57 l1_0 x5_1).f1.f1)))) || (!(((rd_T57 l0_0 x5_1).f2) == ((rd_T57 l1_0 x5_1).f2)) || (!(((rd_T57 l0_0 x5_1).f3) == ((rd_T57 l1_0 x5_1).f3)))))) = false := by simpa using c17
      clear c17
      (first | rw [c17b0] | (simp only [i64_w, i32_w]; rw [c17b0]) | skip)
      have H' := aa_ H
      clear H
      go_wp2
      repeat (go_quiet (fail); try go_wp2)
      go_roundg k1
      case measure => have := HK1.out; omega
      case rel => exact ⟨(wrap64 (x5_1 + 1)), rf_, H', ⟨by have := HK1.out; omega⟩, ⟨bk_ BK806⟩, ⟨bk_ BK807⟩, ⟨bl_⟩⟩
    ·rw [if_neg c10] at H
     have c10b0 : decide (x5_1 < (l0_0.length : Int)) = false := decide_eq_false c10
     clear c10
     obtain rfl := Option.some.inj H
     have hnb18 := NB806_807.out
     have hnc18 := NB807_806.out
     have hcz19 := blk_cell BK806.out
     have hfz19 := blk_frozen BK806.out
     go_wp2
     repeat (go_quiet (fail); try go_wp2)
     go_ret
     exact ⟨eq_, bl_⟩
 ·rw [if_neg c9] at H
  have c9b0 : ((l0_0.length : Int) == (l1_0.length : Int)) = false := beq_eq_false_iff_ne.mpr c9
  have c9b1 : ((l0_0.length : Int) != (l1_0.length : Int)) = true := bne_iff_ne.mpr c9
  have c9b2 : (l0_0.length == l1_0.length) = false := by first | simpa using c9 | (simp at c9 ⊢; omega)
  (first | rw [c9b0] | (simp only [i64_w, i32_w]; rw [c9b0]) | (have cz_ := c9b0; simp only [Int.ofNat_lt, Int.ofNat_le, gt_iff_lt, ge_iff_le] at cz_; rw [cz_]; clear cz_) | skip)
  obtain rfl := Option.some.inj H
  go_wp2
  repeat (go_quiet (fail); try go_wp2)
  go_ret
  exact ⟨eq_, bl_⟩
end Go.Proofs.Ytnoklfpnmopkpaa.PE
