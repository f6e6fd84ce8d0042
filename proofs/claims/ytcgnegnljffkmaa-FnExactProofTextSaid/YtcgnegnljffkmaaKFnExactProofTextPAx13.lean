import Derived.Test.YtcgnegnljffkmaaKFnExactProofTextPAx0
import Derived.Test.YtcgnegnljffkmaaKFnExactProofTextPAx1
import Derived.Test.YtcgnegnljffkmaaKFnExactProofTextPAx3
-- A text of this claim: written by the session's own program out of the translation (wip/tools). Lean checks it.
namespace Go.Proofs.Ytcgnegnljffkmaa.PA
open Go.RowKit Go.Proofs.YtcgnegnljffkmaaW.PrintWords Go.Proofs.YtcgnegnljffkmaaW.PrintLast Go.Proofs.YtcgnegnljffkmaaW.PrintMore
attribute [local go_sem] max2_int min2_int max_two min_two max_three min_three max_four min_four   -- for this text's walks alone
set_option linter.unusedVariables false
set_option linter.unusedSimpArgs false
attribute [local go_sem high] eqA27
def spec_CredText.f (k : Nat) (a0_0 : Int) (a0_1 : Int) (a0_2 : Int) (a0_3 : Int) (a0_4 : Int) (a0_5 : Int) (a0_6 : Int) (a0_7 : Int) (a0_8 : Int) (a0_9 : Int) : Option (ByteArray) := (spec_CredOk.f k a0_0 a0_1 a0_2 a0_3 a0_4 a0_5 a0_6 a0_7 a0_8 a0_9).bind fun t410 => (if t410 = true then ((spec_l01Var.f k a0_0).bind fun t411 => ((spec_l01Var.f k a0_1).bind fun t412 => (if t411.size + t412.size ≤ 9223372036854775807 then ((spec_l01Var.f k a0_2).bind fun t413 => (if (t411 ++ t412).size + t413.size ≤ 9223372036854775807 then ((spec_l01Var.f k a0_3).bind fun t414 => (if ((t411 ++ t412) ++ t413).size + t414.size ≤ 9223372036854775807 then ((spec_l01Var.f k a0_4).bind fun t415 => (if (((t411 ++ t412) ++ t413) ++ t414).size + t415.size ≤ 9223372036854775807 then ((spec_l01Var.f k a0_5).bind fun t416 => (if ((((t411 ++ t412) ++ t413) ++ t414) ++ t415).size + t416.size ≤ 9223372036854775807 then ((spec_l01Var.f k a0_6).bind fun t417 => (if (((((t411 ++ t412) ++ t413) ++ t414) ++ t415) ++ t416).size + t417.size ≤ 9223372036854775807 then ((spec_l01Var.f k a0_7).bind fun t418 => (if ((((((t411 ++ t412) ++ t413) ++ t414) ++ t415) ++ t416) ++ t417).size + t418.size ≤ 9223372036854775807 then ((spec_l01Var.f k a0_8).bind fun t419 => (if (((((((t411 ++ t412) ++ t413) ++ t414) ++ t415) ++ t416) ++ t417) ++ t418).size + t419.size ≤ 9223372036854775807 then ((spec_l01Var.f k a0_9).bind fun t420 => (if ((((((((t411 ++ t412) ++ t413) ++ t414) ++ t415) ++ t416) ++ t417) ++ t418) ++ t419).size + t420.size ≤ 9223372036854775807 then (some (((((((((t411 ++ t412) ++ t413) ++ t414) ++ t415) ++ t416) ++ t417) ++ t418) ++ t419) ++ t420)) else (none))) else (none))) else (none))) else (none))) else (none))) else (none))) else (none))) else (none))) else (none)))) else (some (⟨#[]⟩ : ByteArray)))
def spec_CredText.T3 : Bool × List (List Nat × List Nat) := (true, [([], []), ([0], [0]), ([1], [1]), ([], []), ([3], [3]), ([4], [4]), ([5, 2], [5]), ([2, 6], [2, 6]), ([], []), ([8], [8]), ([9], [9]), ([10, 6], [10]), ([7, 11], [7, 11]), ([], []), ([13], [13]), ([14, 11], [14]), ([12, 15], [12, 15]), ([], []), ([17], [17]), ([18], [18]), ([19, 15], [19]), ([16, 20], [16, 20]), ([], []), ([22], [22]), ([23], [23]), ([24, 20], [24]), ([21, 25], [21, 25]), ([], []), ([27], [27]), ([28], [28]), ([29, 25], [29]), ([26, 30], [26, 30]), ([], []), ([32], [32]), ([33], [33]), ([34, 30], [34]), ([31, 35], [31, 35]), ([], []), ([37], [37]), ([38, 35], [38]), ([36, 39], [36, 39]), ([], []), ([41], [41]), ([42, 39], [42]), ([40, 43], [40, 43]), ([44, 43, 0, 1, 2, 3, 4, 5, 6, 7, 8, 9, 10, 11, 12, 13, 14, 15, 16, 17, 18, 19, 20, 21, 22, 23, 24, 25, 26, 27, 28, 29, 30, 31, 32, 33, 34, 35, 36, 37, 38, 39, 40, 41, 42, 43, 44], [44])])
def spec_CredText.B3 : List Nat := [0, 1, 3, 0, 8, 24, 63, 127, 0, 256, 768, 1919, 4095, 0, 8192, 28543, 65535, 0, 131072, 393216, 978815, 2097151, 0, 4194304, 12582912, 31387519, 67108863, 0, 134217728, 402653184, 1004466047, 2147483647, 0, 4294967296, 12884901888, 32142978943, 68719476735, 0, 137438953472, 478819577727, 1099511627775, 0, 2199023255552, 7625645158271, 17592186044415, 35184372088831]
theorem spec_CredText.tab3 : rtab .any (opsOf Try.f105 3) = spec_CredText.T3 := by kernel_rfl
theorem spec_CredText.bits3 : waitsOk spec_CredText.T3.2 spec_CredText.B3 = true := by kernel_rfl
set_option maxHeartbeats 8000000 in
set_option maxRecDepth 100000 in
theorem spec_CredText.calls (k : Nat) (a0_0 : Int) (a0_1 : Int) (a0_2 : Int) (a0_3 : Int) (a0_4 : Int) (a0_5 : Int) (a0_6 : Int) (a0_7 : Int) (a0_8 : Int) (a0_9 : Int) (r : ByteArray) (w : World) (h : spec_CredText.f k a0_0 a0_1 a0_2 a0_3 a0_4 a0_5 a0_6 a0_7 a0_8 a0_9 = some r) :
  Calls Try.prog 105 #[.agg #[.int .i64 a0_0, .int .i64 a0_1, .int .i64 a0_2, .int .i64 a0_3, .int .i64 a0_4, .int .i64 a0_5, .int .i64 a0_6, .int .i64 a0_7, .int .i64 a0_8, .int .i64 a0_9]] w fun e w' => e = .returned (.string r) ∧ Below w.heap.size w w' := by
 have hu29 := Try.underlying29
 have HB := Aside0.mk (Below.refl w.heap.size w)
 have H : ((spec_CredOk.f k a0_0 a0_1 a0_2 a0_3 a0_4 a0_5 a0_6 a0_7 a0_8 a0_9).bind fun t410 => (if t410 = true then ((spec_l01Var.f k a0_0).bind fun t411 => ((spec_l01Var.f k a0_1).bind fun t412 => (if t411.size + t412.size ≤ 9223372036854775807 then ((spec_l01Var.f k a0_2).bind fun t413 => (if (t411 ++ t412).size + t413.size ≤ 9223372036854775807 then ((spec_l01Var.f k a0_3).bind fun t414 => (if ((t411 ++ t412) ++ t413).size + t414.size ≤ 9223372036854775807 then ((spec_l01Var.f k a0_4).bind fun t415 => (if (((t411 ++ t412) ++ t413) ++ t414).size + t415.size ≤ 9223372036854775807 then ((spec_l01Var.f k a0_5).bind fun t416 => (if ((((t411 ++ t412) ++ t413) ++ t414) ++ t415).size + t416.size ≤ 9223372036854775807 then ((spec_l01Var.f k a0_6).bind fun t417 => (if (((((t411 ++ t412) ++ t413) ++ t414) ++ t415) ++ t416).size + t417.size ≤ 9223372036854775807 then ((spec_l01Var.f k a0_7).bind fun t418 => (if ((((((t411 ++ t412) ++ t413) ++ t414) ++ t415) ++ t416) ++ t417).size + t418.size ≤ 9223372036854775807 then ((spec_l01Var.f k a0_8).bind fun t419 => (if (((((((t411 ++ t412) ++ t413) ++ t414) ++ t415) ++ t416) ++ t417) ++ t418).size + t419.size ≤ 9223372036854775807 then ((spec_l01Var.f k a0_9).bind fun t420 => (if ((((((((t411 ++ t412) ++ t413) ++ t414) ++ t415) ++ t416) ++ t417) ++ t418) ++ t419).size + t420.size ≤ 9223372036854775807 then (some (((((((((t411 ++ t412) ++ t413) ++ t414) ++ t415) ++ t416) ++ t417) ++ t418) ++ t419) ++ t420)) else (none))) else (none))) else (none))) else (none))) else (none))) else (none))) else (none))) else (none))) else (none)))) else (some (⟨#[]⟩ : ByteArray)))) = some r := h
 clear h
 obtain ⟨t410, A2, H⟩ := bindE_ H
 by_cases c3 : t410 = true
 ·subst c3
  replace H := ite_t_ H
  obtain ⟨t411, A4, H⟩ := bindE_ H
  obtain ⟨t412, A5, H⟩ := bindE_ H
  by_cases c6 : t411.size + t412.size ≤ 9223372036854775807
  ·rw [if_pos c6] at H
   have c6b0 := eq_true c6
   have c6b1 : decide (t411.size + t412.size ≤ 9223372036854775807) = true := decide_eq_true c6
   try have c6b2 : (9223372036854775807 < t411.size + t412.size) = False := eq_false (Nat.not_lt.2 c6)
   obtain ⟨t413, A7, H⟩ := bindE_ H
   by_cases c8 : (t411 ++ t412).size + t413.size ≤ 9223372036854775807
   ·rw [if_pos c8] at H
    have c8b0 := eq_true c8
    have c8b1 : decide ((t411 ++ t412).size + t413.size ≤ 9223372036854775807) = true := decide_eq_true c8
    try have c8b2 : (9223372036854775807 < (t411 ++ t412).size + t413.size) = False := eq_false (Nat.not_lt.2 c8)
    (try (have c8b3 := c8b2; simp only [ByteArray.size_append] at c8b3)); (try (have c8b4 := c8b0; simp only [ByteArray.size_append] at c8b4))
    obtain ⟨t414, A9, H⟩ := bindE_ H
    by_cases c10 : ((t411 ++ t412) ++ t413).size + t414.size ≤ 9223372036854775807
    ·rw [if_pos c10] at H
     have c10b0 := eq_true c10
     have c10b1 : decide (((t411 ++ t412) ++ t413).size + t414.size ≤ 9223372036854775807) = true := decide_eq_true c10
     try have c10b2 : (9223372036854775807 < ((t411 ++ t412) ++ t413).size + t414.size) = False := eq_false (Nat.not_lt.2 c10)
     (try (have c10b3 := c10b2; simp only [ByteArray.size_append] at c10b3)); (try (have c10b4 := c10b0; simp only [ByteArray.size_append] at c10b4))
     obtain ⟨t415, A11, H⟩ := bindE_ H
     by_cases c12 : (((t411 ++ t412) ++ t413) ++ t414).size + t415.size ≤ 9223372036854775807
     ·rw [if_pos c12] at H
      have c12b0 := eq_true c12
      have c12b1 : decide ((((t411 ++ t412) ++ t413) ++ t414).size + t415.size ≤ 9223372036854775807) = true := decide_eq_true c12
      try have c12b2 : (9223372036854775807 < (((t411 ++ t412) ++ t413) ++ t414).size + t415.size) = False := eq_false (Nat.not_lt.2 c12)
      (try (have c12b3 := c12b2; simp only [ByteArray.size_append] at c12b3)); (try (have c12b4 := c12b0; simp only [ByteArray.size_append] at c12b4))
      obtain ⟨t416, A13, H⟩ := bindE_ H
      by_cases c14 : ((((t411 ++ t412) ++ t413) ++ t414) ++ t415).size + t416.size ≤ 9223372036854775807
      ·rw [if_pos c14] at H
       have c14b0 := eq_true c14
       have c14b1 : decide (((((t411 ++ t412) ++ t413) ++ t414) ++ t415).size + t416.size ≤ 9223372036854775807) = true := decide_eq_true c14
       try have c14b2 : (9223372036854775807 < ((((t411 ++ t412) ++ t413) ++ t414) ++ t415).size + t416.size) = False := eq_false (Nat.not_lt.2 c14)
       (try (have c14b3 := c14b2; simp only [ByteArray.size_append] at c14b3)); (try (have c14b4 := c14b0; simp only [ByteArray.size_append] at c14b4))
       obtain ⟨t417, A15, H⟩ := bindE_ H
       by_cases c16 : (((((t411 ++ t412) ++ t413) ++ t414) ++ t415) ++ t416).size + t417.size ≤ 9223372036854775807
       ·rw [if_pos c16] at H
        have c16b0 := eq_true c16
        have c16b1 : decide ((((((t411 ++ t412) ++ t413) ++ t414) ++ t415) ++ t416).size + t417.size ≤ 9223372036854775807) = true := decide_eq_true c16
        try have c16b2 : (9223372036854775807 < (((((t411 ++ t412) ++ t413) ++ t414) ++ t415) ++ t416).size + t417.size) = False := eq_false (Nat.not_lt.2 c16)
        (try (have c16b3 := c16b2; simp only [ByteArray.size_append] at c16b3)); (try (have c16b4 := c16b0; simp only [ByteArray.size_append] at c16b4))
        obtain ⟨t418, A17, H⟩ := bindE_ H
        by_cases c18 : ((((((t411 ++ t412) ++ t413) ++ t414) ++ t415) ++ t416) ++ t417).size + t418.size ≤ 9223372036854775807
        ·rw [if_pos c18] at H
         have c18b0 := eq_true c18
         have c18b1 : decide (((((((t411 ++ t412) ++ t413) ++ t414) ++ t415) ++ t416) ++ t417).size + t418.size ≤ 9223372036854775807) = true := decide_eq_true c18
         try have c18b2 : (9223372036854775807 < ((((((t411 ++ t412) ++ t413) ++ t414) ++ t415) ++ t416) ++ t417).size + t418.size) = False := eq_false (Nat.not_lt.2 c18)
         (try (have c18b3 := c18b2; simp only [ByteArray.size_append] at c18b3)); (try (have c18b4 := c18b0; simp only [ByteArray.size_append] at c18b4))
         obtain ⟨t419, A19, H⟩ := bindE_ H
         by_cases c20 : (((((((t411 ++ t412) ++ t413) ++ t414) ++ t415) ++ t416) ++ t417) ++ t418).size + t419.size ≤ 9223372036854775807
         ·rw [if_pos c20] at H
          have c20b0 := eq_true c20
          have c20b1 : decide ((((((((t411 ++ t412) ++ t413) ++ t414) ++ t415) ++ t416) ++ t417) ++ t418).size + t419.size ≤ 9223372036854775807) = true := decide_eq_true c20
          try have c20b2 : (9223372036854775807 < (((((((t411 ++ t412) ++ t413) ++ t414) ++ t415) ++ t416) ++ t417) ++ t418).size + t419.size) = False := eq_false (Nat.not_lt.2 c20)
          (try (have c20b3 := c20b2; simp only [ByteArray.size_append] at c20b3)); (try (have c20b4 := c20b0; simp only [ByteArray.size_append] at c20b4))
          obtain ⟨t420, A21, H⟩ := bindE_ H
          by_cases c22 : ((((((((t411 ++ t412) ++ t413) ++ t414) ++ t415) ++ t416) ++ t417) ++ t418) ++ t419).size + t420.size ≤ 9223372036854775807
          ·rw [if_pos c22] at H
           have c22b0 := eq_true c22
           have c22b1 : decide (((((((((t411 ++ t412) ++ t413) ++ t414) ++ t415) ++ t416) ++ t417) ++ t418) ++ t419).size + t420.size ≤ 9223372036854775807) = true := decide_eq_true c22
           try have c22b2 : (9223372036854775807 < ((((((((t411 ++ t412) ++ t413) ++ t414) ++ t415) ++ t416) ++ t417) ++ t418) ++ t419).size + t420.size) = False := eq_false (Nat.not_lt.2 c22)
           (try (have c22b3 := c22b2; simp only [ByteArray.size_append] at c22b3)); (try (have c22b4 := c22b0; simp only [ByteArray.size_append] at c22b4))
           obtain rfl := Option.some.inj H
           go_enter Try.func105, Try.ntmps105
           try go_wp2_with (first | ((with_reducible refine gate_dst (N := 1) rfl ?_); refine box_event ?hg (N := 1) ?hd (cs := #[.int .i64 a0_0, .int .i64 a0_1, .int .i64 a0_2, .int .i64 a0_3, .int .i64 a0_4, .int .i64 a0_5, .int .i64 a0_6, .int .i64 a0_7, .int .i64 a0_8, .int .i64 a0_9]) (t := 29) ?hr ?_; (case hd => rfl); (case hg => rfl); (case hr => first | (go_simp; done) | (go_simp; rfl)); intro gb409 hg w23 hbox hb; have BK409 := Aside0.mk (hbox); have GW409 := gs_ hg; have GE409 := gs_ hg; replace HB := hbs_ hb; clear hb hbox hg; have hcz24 := blk_cell BK409.out; have hfz24 := blk_frozen BK409.out) | ((with_reducible refine gate_callee (f := 68) rfl ?_); refine goesC_ (some 4) Try.func68 #[.agg #[.int .i64 a0_0, .int .i64 a0_1, .int .i64 a0_2, .int .i64 a0_3, .int .i64 a0_4, .int .i64 a0_5, .int .i64 a0_6, .int .i64 a0_7, .int .i64 a0_8, .int .i64 a0_9]] ?_; (with_reducible refine (spec_CredOk.calls k a0_0 a0_1 a0_2 a0_3 a0_4 a0_5 a0_6 a0_7 a0_8 a0_9 true _ A2.out).mono ?_); rintro e w25 ⟨rfl, hb⟩; refine ⟨_, rfl, ?_⟩; replace BK409 := bkb_ BK409 hb; replace HB := hbs_ hb; clear hb))
           replace BK409 := Aside0.mk (blk_drew BK409.out)
           replace HB := Aside0.mk (below_drew1 HB.out)
           refine start_ (n := 46) (S := fun w' => w'.cell? ⟨gb409, 0, none⟩ = some (.int .i64 a0_0) ∧ w'.cell? ⟨gb409, 1, none⟩ = some (.int .i64 a0_1) ∧ w'.cell? ⟨gb409, 2, none⟩ = some (.int .i64 a0_2) ∧ w'.cell? ⟨gb409, 3, none⟩ = some (.int .i64 a0_3) ∧ w'.cell? ⟨gb409, 4, none⟩ = some (.int .i64 a0_4) ∧ w'.cell? ⟨gb409, 5, none⟩ = some (.int .i64 a0_5) ∧ w'.cell? ⟨gb409, 6, none⟩ = some (.int .i64 a0_6) ∧ w'.cell? ⟨gb409, 7, none⟩ = some (.int .i64 a0_7) ∧ w'.cell? ⟨gb409, 8, none⟩ = some (.int .i64 a0_8) ∧ w'.cell? ⟨gb409, 9, none⟩ = some (.int .i64 a0_9)) (ds := []) #[false, false, false, false, false, false, false, false, false, false, false, false, false, false, false, false, false, false, false, false, false, false, false, false, false, false, false, false, false, false, false, false, false, false, false, false, false, false, false, false, false, false, false, false, false, false] (by kernel_rfl) rfl rfl ⟨(blk_cell BK409.out 0).trans rfl, (blk_cell BK409.out 1).trans rfl, (blk_cell BK409.out 2).trans rfl, (blk_cell BK409.out 3).trans rfl, (blk_cell BK409.out 4).trans rfl, (blk_cell BK409.out 5).trans rfl, (blk_cell BK409.out 6).trans rfl, (blk_cell BK409.out 7).trans rfl, (blk_cell BK409.out 8).trans rfl, (blk_cell BK409.out 9).trans rfl⟩ (fun hHeld => ?_); refine with_tabW spec_CredText.tab3 spec_CredText.bits3 (fun HT_ HW_ => ?_)
           generalize w25.drew = w26 at BK409 HB hHeld ⊢
           refine pureZ_ (i := 0) (some 6) #[true, false, false, false, false, false, false, false, false, false, false, false, false, false, false, false, false, false, false, false, false, false, false, false, false, false, false, false, false, false, false, false, false, false, false, false, false, false, false, false, false, false, false, false, false, false] (any_of HT_.out (by kernel_rfl)) ?_
           refine pureZ_ (i := 3) (some 9) #[true, false, false, true, false, false, false, false, false, false, false, false, false, false, false, false, false, false, false, false, false, false, false, false, false, false, false, false, false, false, false, false, false, false, false, false, false, false, false, false, false, false, false, false, false, false] (any_of HT_.out (by kernel_rfl)) ?_
           refine pureZ_ (i := 4) (some 10) #[true, false, false, true, true, false, false, false, false, false, false, false, false, false, false, false, false, false, false, false, false, false, false, false, false, false, false, false, false, false, false, false, false, false, false, false, false, false, false, false, false, false, false, false, false, false] (any_of HT_.out (by kernel_rfl)) ?_
           refine pureZ_ (i := 8) (some 14) #[true, false, false, true, true, false, false, false, true, false, false, false, false, false, false, false, false, false, false, false, false, false, false, false, false, false, false, false, false, false, false, false, false, false, false, false, false, false, false, false, false, false, false, false, false, false] (any_of HT_.out (by kernel_rfl)) ?_
           refine pureZ_ (i := 9) (some 15) #[true, false, false, true, true, false, false, false, true, true, false, false, false, false, false, false, false, false, false, false, false, false, false, false, false, false, false, false, false, false, false, false, false, false, false, false, false, false, false, false, false, false, false, false, false, false] (any_of HT_.out (by kernel_rfl)) ?_
           refine pureZ_ (i := 13) (some 19) #[true, false, false, true, true, false, false, false, true, true, false, false, false, true, false, false, false, false, false, false, false, false, false, false, false, false, false, false, false, false, false, false, false, false, false, false, false, false, false, false, false, false, false, false, false, false] (any_of HT_.out (by kernel_rfl)) ?_
           refine pureZ_ (i := 17) (some 23) #[true, false, false, true, true, false, false, false, true, true, false, false, false, true, false, false, false, true, false, false, false, false, false, false, false, false, false, false, false, false, false, false, false, false, false, false, false, false, false, false, false, false, false, false, false, false] (any_of HT_.out (by kernel_rfl)) ?_
           refine pureZ_ (i := 18) (some 24) #[true, false, false, true, true, false, false, false, true, true, false, false, false, true, false, false, false, true, true, false, false, false, false, false, false, false, false, false, false, false, false, false, false, false, false, false, false, false, false, false, false, false, false, false, false, false] (any_of HT_.out (by kernel_rfl)) ?_
           refine pureZ_ (i := 22) (some 28) #[true, false, false, true, true, false, false, false, true, true, false, false, false, true, false, false, false, true, true, false, false, false, true, false, false, false, false, false, false, false, false, false, false, false, false, false, false, false, false, false, false, false, false, false, false, false] (any_of HT_.out (by kernel_rfl)) ?_
           refine pureZ_ (i := 23) (some 29) #[true, false, false, true, true, false, false, false, true, true, false, false, false, true, false, false, false, true, true, false, false, false, true, true, false, false, false, false, false, false, false, false, false, false, false, false, false, false, false, false, false, false, false, false, false, false] (any_of HT_.out (by kernel_rfl)) ?_
           refine pureZ_ (i := 27) (some 33) #[true, false, false, true, true, false, false, false, true, true, false, false, false, true, false, false, false, true, true, false, false, false, true, true, false, false, false, true, false, false, false, false, false, false, false, false, false, false, false, false, false, false, false, false, false, false] (any_of HT_.out (by kernel_rfl)) ?_
           refine pureZ_ (i := 28) (some 34) #[true, false, false, true, true, false, false, false, true, true, false, false, false, true, false, false, false, true, true, false, false, false, true, true, false, false, false, true, true, false, false, false, false, false, false, false, false, false, false, false, false, false, false, false, false, false] (any_of HT_.out (by kernel_rfl)) ?_
           refine pureZ_ (i := 32) (some 38) #[true, false, false, true, true, false, false, false, true, true, false, false, false, true, false, false, false, true, true, false, false, false, true, true, false, false, false, true, true, false, false, false, true, false, false, false, false, false, false, false, false, false, false, false, false, false] (any_of HT_.out (by kernel_rfl)) ?_
           refine pureZ_ (i := 33) (some 39) #[true, false, false, true, true, false, false, false, true, true, false, false, false, true, false, false, false, true, true, false, false, false, true, true, false, false, false, true, true, false, false, false, true, true, false, false, false, false, false, false, false, false, false, false, false, false] (any_of HT_.out (by kernel_rfl)) ?_
           refine pureZ_ (i := 37) (some 43) #[true, false, false, true, true, false, false, false, true, true, false, false, false, true, false, false, false, true, true, false, false, false, true, true, false, false, false, true, true, false, false, false, true, true, false, false, false, true, false, false, false, false, false, false, false, false] (any_of HT_.out (by kernel_rfl)) ?_
           refine pureZ_ (i := 41) (some 47) #[true, false, false, true, true, false, false, false, true, true, false, false, false, true, false, false, false, true, true, false, false, false, true, true, false, false, false, true, true, false, false, false, true, true, false, false, false, true, false, false, false, true, false, false, false, false] (any_of HT_.out (by kernel_rfl)) ?_
           refine takeZ_ (i := 1) (some 7) #[true, true, false, true, true, false, false, false, true, true, false, false, false, true, false, false, false, true, true, false, false, false, true, true, false, false, false, true, true, false, false, false, true, true, false, false, false, true, false, false, false, true, false, false, false, false] (take_ofW HT_.out HW_.out (by kernel_rfl)) hHeld ?_
           refine takeZ_ (i := 5) (some 11) #[true, true, false, true, true, true, false, false, true, true, false, false, false, true, false, false, false, true, true, false, false, false, true, true, false, false, false, true, true, false, false, false, true, true, false, false, false, true, false, false, false, true, false, false, false, false] (take_ofW HT_.out HW_.out (by kernel_rfl)) hHeld ?_
           refine takeZ_ (i := 10) (some 16) #[true, true, false, true, true, true, false, false, true, true, true, false, false, true, false, false, false, true, true, false, false, false, true, true, false, false, false, true, true, false, false, false, true, true, false, false, false, true, false, false, false, true, false, false, false, false] (take_ofW HT_.out HW_.out (by kernel_rfl)) hHeld ?_
           refine takeZ_ (i := 14) (some 20) #[true, true, false, true, true, true, false, false, true, true, true, false, false, true, true, false, false, true, true, false, false, false, true, true, false, false, false, true, true, false, false, false, true, true, false, false, false, true, false, false, false, true, false, false, false, false] (take_ofW HT_.out HW_.out (by kernel_rfl)) hHeld ?_
           refine takeZ_ (i := 19) (some 25) #[true, true, false, true, true, true, false, false, true, true, true, false, false, true, true, false, false, true, true, true, false, false, true, true, false, false, false, true, true, false, false, false, true, true, false, false, false, true, false, false, false, true, false, false, false, false] (take_ofW HT_.out HW_.out (by kernel_rfl)) hHeld ?_
           refine takeZ_ (i := 24) (some 30) #[true, true, false, true, true, true, false, false, true, true, true, false, false, true, true, false, false, true, true, true, false, false, true, true, true, false, false, true, true, false, false, false, true, true, false, false, false, true, false, false, false, true, false, false, false, false] (take_ofW HT_.out HW_.out (by kernel_rfl)) hHeld ?_
           refine takeZ_ (i := 29) (some 35) #[true, true, false, true, true, true, false, false, true, true, true, false, false, true, true, false, false, true, true, true, false, false, true, true, true, false, false, true, true, true, false, false, true, true, false, false, false, true, false, false, false, true, false, false, false, false] (take_ofW HT_.out HW_.out (by kernel_rfl)) hHeld ?_
           refine takeZ_ (i := 34) (some 40) #[true, true, false, true, true, true, false, false, true, true, true, false, false, true, true, false, false, true, true, true, false, false, true, true, true, false, false, true, true, true, false, false, true, true, true, false, false, true, false, false, false, true, false, false, false, false] (take_ofW HT_.out HW_.out (by kernel_rfl)) hHeld ?_
           refine takeZ_ (i := 38) (some 44) #[true, true, false, true, true, true, false, false, true, true, true, false, false, true, true, false, false, true, true, true, false, false, true, true, true, false, false, true, true, true, false, false, true, true, true, false, false, true, true, false, false, true, false, false, false, false] (take_ofW HT_.out HW_.out (by kernel_rfl)) hHeld ?_
           refine takeZ_ (i := 42) (some 48) #[true, true, false, true, true, true, false, false, true, true, true, false, false, true, true, false, false, true, true, true, false, false, true, true, true, false, false, true, true, true, false, false, true, true, true, false, false, true, true, false, false, true, true, false, false, false] (take_ofW HT_.out HW_.out (by kernel_rfl)) hHeld ?_
           refine one_ (i := 2) (N := some 8) #[true, true, true, true, true, true, false, false, true, true, true, false, false, true, true, false, false, true, true, true, false, false, true, true, true, false, false, true, true, true, false, false, true, true, true, false, false, true, true, false, false, true, true, false, false, false] rfl rfl (one_of HT_.out (by kernel_rfl)) (by decide) (fun K hK => ?_)
           refine goes_ Try.func82 (by kernel_rfl) rfl #[.int .i64 a0_0] (by rfl) rfl rfl (by (try simp only [List.map_toArray, List.map_cons, List.map_nil]); first | done | rfl | (simp only [List.length_drop, List.length_take]; rfl)) ?_
           with_reducible refine (spec_l01Var.calls k a0_0 t411 _ A4.out).mono ?_
           rintro e w27 ⟨rfl, hb⟩
           refine ⟨_, rfl, ?_⟩
           replace BK409 := bkb_ BK409 hb
           replace HB := hbs_ hb
           (try clear hb)
           (try clear hb2)
           (try clear hk)
           (try clear hi)
           refine hK.out _ _ ⟨(blk_cell BK409.out 0).trans rfl, (blk_cell BK409.out 1).trans rfl, (blk_cell BK409.out 2).trans rfl, (blk_cell BK409.out 3).trans rfl, (blk_cell BK409.out 4).trans rfl, (blk_cell BK409.out 5).trans rfl, (blk_cell BK409.out 6).trans rfl, (blk_cell BK409.out 7).trans rfl, (blk_cell BK409.out 8).trans rfl, (blk_cell BK409.out 9).trans rfl⟩ (fun hHeld => ?_)
           clear hK K
           refine norm_ (a' := ?_) ?_ ?_
           rotate_left
           ·show Act.put _ (some 8) _ = _
            simp only [Act.put, List.setIfInBounds_toArray, List.set_cons_zero, List.set_cons_succ, i64_w, i32_w]
            rfl
           refine one_ (i := 6) (N := some 12) #[true, true, true, true, true, true, true, false, true, true, true, false, false, true, true, false, false, true, true, true, false, false, true, true, true, false, false, true, true, true, false, false, true, true, true, false, false, true, true, false, false, true, true, false, false, false] rfl rfl (one_of HT_.out (by kernel_rfl)) (by decide) (fun K hK => ?_)
           refine goes_ Try.func82 (by kernel_rfl) rfl #[.int .i64 a0_1] (by rfl) rfl rfl (by (try simp only [List.map_toArray, List.map_cons, List.map_nil]); first | done | rfl | (simp only [List.length_drop, List.length_take]; rfl)) ?_
           with_reducible refine (spec_l01Var.calls k a0_1 t412 _ A5.out).mono ?_
           rintro e w28 ⟨rfl, hb⟩
           refine ⟨_, rfl, ?_⟩
           replace BK409 := bkb_ BK409 hb
           replace HB := hbs_ hb
           (try clear hb)
           (try clear hb2)
           (try clear hk)
           (try clear hi)
           refine hK.out _ _ ⟨(blk_cell BK409.out 0).trans rfl, (blk_cell BK409.out 1).trans rfl, (blk_cell BK409.out 2).trans rfl, (blk_cell BK409.out 3).trans rfl, (blk_cell BK409.out 4).trans rfl, (blk_cell BK409.out 5).trans rfl, (blk_cell BK409.out 6).trans rfl, (blk_cell BK409.out 7).trans rfl, (blk_cell BK409.out 8).trans rfl, (blk_cell BK409.out 9).trans rfl⟩ (fun hHeld => ?_)
           clear hK K
           refine norm_ (a' := ?_) ?_ ?_
           rotate_left
           ·show Act.put _ (some 12) _ = _
            simp only [Act.put, List.setIfInBounds_toArray, List.set_cons_zero, List.set_cons_succ, i64_w, i32_w]
            rfl
           refine pureZ_ (i := 7) (some 13) #[true, true, true, true, true, true, true, true, true, true, true, false, false, true, true, false, false, true, true, true, false, false, true, true, true, false, false, true, true, true, false, false, true, true, true, false, false, true, true, false, false, true, true, false, false, false] (any_of HT_.out (by kernel_rfl)) ?_
           refine one_ (i := 11) (N := some 17) #[true, true, true, true, true, true, true, true, true, true, true, true, false, true, true, false, false, true, true, true, false, false, true, true, true, false, false, true, true, true, false, false, true, true, true, false, false, true, true, false, false, true, true, false, false, false] rfl rfl (one_of HT_.out (by kernel_rfl)) (by decide) (fun K hK => ?_)
           refine goes_ Try.func82 (by kernel_rfl) rfl #[.int .i64 a0_2] (by rfl) rfl rfl (by (try simp only [List.map_toArray, List.map_cons, List.map_nil]); first | done | rfl | (simp only [List.length_drop, List.length_take]; rfl)) ?_
           with_reducible refine (spec_l01Var.calls k a0_2 t413 _ A7.out).mono ?_
           rintro e w29 ⟨rfl, hb⟩
           refine ⟨_, rfl, ?_⟩
           replace BK409 := bkb_ BK409 hb
           replace HB := hbs_ hb
           (try clear hb)
           (try clear hb2)
           (try clear hk)
           (try clear hi)
           refine hK.out _ _ ⟨(blk_cell BK409.out 0).trans rfl, (blk_cell BK409.out 1).trans rfl, (blk_cell BK409.out 2).trans rfl, (blk_cell BK409.out 3).trans rfl, (blk_cell BK409.out 4).trans rfl, (blk_cell BK409.out 5).trans rfl, (blk_cell BK409.out 6).trans rfl, (blk_cell BK409.out 7).trans rfl, (blk_cell BK409.out 8).trans rfl, (blk_cell BK409.out 9).trans rfl⟩ (fun hHeld => ?_)
           clear hK K
           refine norm_ (a' := ?_) ?_ ?_
           rotate_left
           ·show Act.put _ (some 17) _ = _
            simp only [Act.put, List.setIfInBounds_toArray, List.set_cons_zero, List.set_cons_succ, i64_w, i32_w]
            rfl
           refine pureZ_ (i := 12) (some 18) #[true, true, true, true, true, true, true, true, true, true, true, true, true, true, true, false, false, true, true, true, false, false, true, true, true, false, false, true, true, true, false, false, true, true, true, false, false, true, true, false, false, true, true, false, false, false] (any_of HT_.out (by kernel_rfl)) ?_
           refine one_ (i := 15) (N := some 21) #[true, true, true, true, true, true, true, true, true, true, true, true, true, true, true, true, false, true, true, true, false, false, true, true, true, false, false, true, true, true, false, false, true, true, true, false, false, true, true, false, false, true, true, false, false, false] rfl rfl (one_of HT_.out (by kernel_rfl)) (by decide) (fun K hK => ?_)
           refine goes_ Try.func82 (by kernel_rfl) rfl #[.int .i64 a0_3] (by rfl) rfl rfl (by (try simp only [List.map_toArray, List.map_cons, List.map_nil]); first | done | rfl | (simp only [List.length_drop, List.length_take]; rfl)) ?_
           with_reducible refine (spec_l01Var.calls k a0_3 t414 _ A9.out).mono ?_
           rintro e w30 ⟨rfl, hb⟩
           refine ⟨_, rfl, ?_⟩
           replace BK409 := bkb_ BK409 hb
           replace HB := hbs_ hb
           (try clear hb)
           (try clear hb2)
           (try clear hk)
           (try clear hi)
           refine hK.out _ _ ⟨(blk_cell BK409.out 0).trans rfl, (blk_cell BK409.out 1).trans rfl, (blk_cell BK409.out 2).trans rfl, (blk_cell BK409.out 3).trans rfl, (blk_cell BK409.out 4).trans rfl, (blk_cell BK409.out 5).trans rfl, (blk_cell BK409.out 6).trans rfl, (blk_cell BK409.out 7).trans rfl, (blk_cell BK409.out 8).trans rfl, (blk_cell BK409.out 9).trans rfl⟩ (fun hHeld => ?_)
           clear hK K
           refine norm_ (a' := ?_) ?_ ?_
           rotate_left
           ·show Act.put _ (some 21) _ = _
            simp only [Act.put, List.setIfInBounds_toArray, List.set_cons_zero, List.set_cons_succ, i64_w, i32_w]
            rfl
           refine pureZ_ (i := 16) (some 22) #[true, true, true, true, true, true, true, true, true, true, true, true, true, true, true, true, true, true, true, true, false, false, true, true, true, false, false, true, true, true, false, false, true, true, true, false, false, true, true, false, false, true, true, false, false, false] (any_of HT_.out (by kernel_rfl)) ?_
           refine one_ (i := 20) (N := some 26) #[true, true, true, true, true, true, true, true, true, true, true, true, true, true, true, true, true, true, true, true, true, false, true, true, true, false, false, true, true, true, false, false, true, true, true, false, false, true, true, false, false, true, true, false, false, false] rfl rfl (one_of HT_.out (by kernel_rfl)) (by decide) (fun K hK => ?_)
           refine goes_ Try.func82 (by kernel_rfl) rfl #[.int .i64 a0_4] (by rfl) rfl rfl (by (try simp only [List.map_toArray, List.map_cons, List.map_nil]); first | done | rfl | (simp only [List.length_drop, List.length_take]; rfl)) ?_
           with_reducible refine (spec_l01Var.calls k a0_4 t415 _ A11.out).mono ?_
           rintro e w31 ⟨rfl, hb⟩
           refine ⟨_, rfl, ?_⟩
           replace BK409 := bkb_ BK409 hb
           replace HB := hbs_ hb
           (try clear hb)
           (try clear hb2)
           (try clear hk)
           (try clear hi)
           refine hK.out _ _ ⟨(blk_cell BK409.out 0).trans rfl, (blk_cell BK409.out 1).trans rfl, (blk_cell BK409.out 2).trans rfl, (blk_cell BK409.out 3).trans rfl, (blk_cell BK409.out 4).trans rfl, (blk_cell BK409.out 5).trans rfl, (blk_cell BK409.out 6).trans rfl, (blk_cell BK409.out 7).trans rfl, (blk_cell BK409.out 8).trans rfl, (blk_cell BK409.out 9).trans rfl⟩ (fun hHeld => ?_)
           clear hK K
           refine norm_ (a' := ?_) ?_ ?_
           rotate_left
           ·show Act.put _ (some 26) _ = _
            simp only [Act.put, List.setIfInBounds_toArray, List.set_cons_zero, List.set_cons_succ, i64_w, i32_w]
            rfl
           refine pureZ_ (i := 21) (some 27) #[true, true, true, true, true, true, true, true, true, true, true, true, true, true, true, true, true, true, true, true, true, true, true, true, true, false, false, true, true, true, false, false, true, true, true, false, false, true, true, false, false, true, true, false, false, false] (any_of HT_.out (by kernel_rfl)) ?_
           refine one_ (i := 25) (N := some 31) #[true, true, true, true, true, true, true, true, true, true, true, true, true, true, true, true, true, true, true, true, true, true, true, true, true, true, false, true, true, true, false, false, true, true, true, false, false, true, true, false, false, true, true, false, false, false] rfl rfl (one_of HT_.out (by kernel_rfl)) (by decide) (fun K hK => ?_)
           refine goes_ Try.func82 (by kernel_rfl) rfl #[.int .i64 a0_5] (by rfl) rfl rfl (by (try simp only [List.map_toArray, List.map_cons, List.map_nil]); first | done | rfl | (simp only [List.length_drop, List.length_take]; rfl)) ?_
           with_reducible refine (spec_l01Var.calls k a0_5 t416 _ A13.out).mono ?_
           rintro e w32 ⟨rfl, hb⟩
           refine ⟨_, rfl, ?_⟩
           replace BK409 := bkb_ BK409 hb
           replace HB := hbs_ hb
           (try clear hb)
           (try clear hb2)
           (try clear hk)
           (try clear hi)
           refine hK.out _ _ ⟨(blk_cell BK409.out 0).trans rfl, (blk_cell BK409.out 1).trans rfl, (blk_cell BK409.out 2).trans rfl, (blk_cell BK409.out 3).trans rfl, (blk_cell BK409.out 4).trans rfl, (blk_cell BK409.out 5).trans rfl, (blk_cell BK409.out 6).trans rfl, (blk_cell BK409.out 7).trans rfl, (blk_cell BK409.out 8).trans rfl, (blk_cell BK409.out 9).trans rfl⟩ (fun hHeld => ?_)
           clear hK K
           refine norm_ (a' := ?_) ?_ ?_
           rotate_left
           ·show Act.put _ (some 31) _ = _
            simp only [Act.put, List.setIfInBounds_toArray, List.set_cons_zero, List.set_cons_succ, i64_w, i32_w]
            rfl
           refine pureZ_ (i := 26) (some 32) #[true, true, true, true, true, true, true, true, true, true, true, true, true, true, true, true, true, true, true, true, true, true, true, true, true, true, true, true, true, true, false, false, true, true, true, false, false, true, true, false, false, true, true, false, false, false] (any_of HT_.out (by kernel_rfl)) ?_
           refine one_ (i := 30) (N := some 36) #[true, true, true, true, true, true, true, true, true, true, true, true, true, true, true, true, true, true, true, true, true, true, true, true, true, true, true, true, true, true, true, false, true, true, true, false, false, true, true, false, false, true, true, false, false, false] rfl rfl (one_of HT_.out (by kernel_rfl)) (by decide) (fun K hK => ?_)
           refine goes_ Try.func82 (by kernel_rfl) rfl #[.int .i64 a0_6] (by rfl) rfl rfl (by (try simp only [List.map_toArray, List.map_cons, List.map_nil]); first | done | rfl | (simp only [List.length_drop, List.length_take]; rfl)) ?_
           with_reducible refine (spec_l01Var.calls k a0_6 t417 _ A15.out).mono ?_
           rintro e w33 ⟨rfl, hb⟩
           refine ⟨_, rfl, ?_⟩
           replace BK409 := bkb_ BK409 hb
           replace HB := hbs_ hb
           (try clear hb)
           (try clear hb2)
           (try clear hk)
           (try clear hi)
           refine hK.out _ _ ⟨(blk_cell BK409.out 0).trans rfl, (blk_cell BK409.out 1).trans rfl, (blk_cell BK409.out 2).trans rfl, (blk_cell BK409.out 3).trans rfl, (blk_cell BK409.out 4).trans rfl, (blk_cell BK409.out 5).trans rfl, (blk_cell BK409.out 6).trans rfl, (blk_cell BK409.out 7).trans rfl, (blk_cell BK409.out 8).trans rfl, (blk_cell BK409.out 9).trans rfl⟩ (fun hHeld => ?_)
           clear hK K
           refine norm_ (a' := ?_) ?_ ?_
           rotate_left
           ·show Act.put _ (some 36) _ = _
            simp only [Act.put, List.setIfInBounds_toArray, List.set_cons_zero, List.set_cons_succ, i64_w, i32_w]
            rfl
           refine pureZ_ (i := 31) (some 37) #[true, true, true, true, true, true, true, true, true, true, true, true, true, true, true, true, true, true, true, true, true, true, true, true, true, true, true, true, true, true, true, true, true, true, true, false, false, true, true, false, false, true, true, false, false, false] (any_of HT_.out (by kernel_rfl)) ?_
           refine one_ (i := 35) (N := some 41) #[true, true, true, true, true, true, true, true, true, true, true, true, true, true, true, true, true, true, true, true, true, true, true, true, true, true, true, true, true, true, true, true, true, true, true, true, false, true, true, false, false, true, true, false, false, false] rfl rfl (one_of HT_.out (by kernel_rfl)) (by decide) (fun K hK => ?_)
           refine goes_ Try.func82 (by kernel_rfl) rfl #[.int .i64 a0_7] (by rfl) rfl rfl (by (try simp only [List.map_toArray, List.map_cons, List.map_nil]); first | done | rfl | (simp only [List.length_drop, List.length_take]; rfl)) ?_
           with_reducible refine (spec_l01Var.calls k a0_7 t418 _ A17.out).mono ?_
           rintro e w34 ⟨rfl, hb⟩
           refine ⟨_, rfl, ?_⟩
           replace BK409 := bkb_ BK409 hb
           replace HB := hbs_ hb
           (try clear hb)
           (try clear hb2)
           (try clear hk)
           (try clear hi)
           refine hK.out _ _ ⟨(blk_cell BK409.out 0).trans rfl, (blk_cell BK409.out 1).trans rfl, (blk_cell BK409.out 2).trans rfl, (blk_cell BK409.out 3).trans rfl, (blk_cell BK409.out 4).trans rfl, (blk_cell BK409.out 5).trans rfl, (blk_cell BK409.out 6).trans rfl, (blk_cell BK409.out 7).trans rfl, (blk_cell BK409.out 8).trans rfl, (blk_cell BK409.out 9).trans rfl⟩ (fun hHeld => ?_)
           clear hK K
           refine norm_ (a' := ?_) ?_ ?_
           rotate_left
           ·show Act.put _ (some 41) _ = _
            simp only [Act.put, List.setIfInBounds_toArray, List.set_cons_zero, List.set_cons_succ, i64_w, i32_w]
            rfl
           refine pureZ_ (i := 36) (some 42) #[true, true, true, true, true, true, true, true, true, true, true, true, true, true, true, true, true, true, true, true, true, true, true, true, true, true, true, true, true, true, true, true, true, true, true, true, true, true, true, false, false, true, true, false, false, false] (any_of HT_.out (by kernel_rfl)) ?_
           refine one_ (i := 39) (N := some 45) #[true, true, true, true, true, true, true, true, true, true, true, true, true, true, true, true, true, true, true, true, true, true, true, true, true, true, true, true, true, true, true, true, true, true, true, true, true, true, true, true, false, true, true, false, false, false] rfl rfl (one_of HT_.out (by kernel_rfl)) (by decide) (fun K hK => ?_)
           refine goes_ Try.func82 (by kernel_rfl) rfl #[.int .i64 a0_8] (by rfl) rfl rfl (by (try simp only [List.map_toArray, List.map_cons, List.map_nil]); first | done | rfl | (simp only [List.length_drop, List.length_take]; rfl)) ?_
           with_reducible refine (spec_l01Var.calls k a0_8 t419 _ A19.out).mono ?_
           rintro e w35 ⟨rfl, hb⟩
           refine ⟨_, rfl, ?_⟩
           replace BK409 := bkb_ BK409 hb
           replace HB := hbs_ hb
           (try clear hb)
           (try clear hb2)
           (try clear hk)
           (try clear hi)
           refine hK.out _ _ ⟨(blk_cell BK409.out 0).trans rfl, (blk_cell BK409.out 1).trans rfl, (blk_cell BK409.out 2).trans rfl, (blk_cell BK409.out 3).trans rfl, (blk_cell BK409.out 4).trans rfl, (blk_cell BK409.out 5).trans rfl, (blk_cell BK409.out 6).trans rfl, (blk_cell BK409.out 7).trans rfl, (blk_cell BK409.out 8).trans rfl, (blk_cell BK409.out 9).trans rfl⟩ (fun hHeld => ?_)
           clear hK K
           refine norm_ (a' := ?_) ?_ ?_
           rotate_left
           ·show Act.put _ (some 45) _ = _
            simp only [Act.put, List.setIfInBounds_toArray, List.set_cons_zero, List.set_cons_succ, i64_w, i32_w]
            rfl
           refine pureZ_ (i := 40) (some 46) #[true, true, true, true, true, true, true, true, true, true, true, true, true, true, true, true, true, true, true, true, true, true, true, true, true, true, true, true, true, true, true, true, true, true, true, true, true, true, true, true, true, true, true, false, false, false] (any_of HT_.out (by kernel_rfl)) ?_
           refine one_ (i := 43) (N := some 49) #[true, true, true, true, true, true, true, true, true, true, true, true, true, true, true, true, true, true, true, true, true, true, true, true, true, true, true, true, true, true, true, true, true, true, true, true, true, true, true, true, true, true, true, true, false, false] rfl rfl (one_of HT_.out (by kernel_rfl)) (by decide) (fun K hK => ?_)
           refine goes_ Try.func82 (by kernel_rfl) rfl #[.int .i64 a0_9] (by rfl) rfl rfl (by (try simp only [List.map_toArray, List.map_cons, List.map_nil]); first | done | rfl | (simp only [List.length_drop, List.length_take]; rfl)) ?_
           with_reducible refine (spec_l01Var.calls k a0_9 t420 _ A21.out).mono ?_
           rintro e w36 ⟨rfl, hb⟩
           refine ⟨_, rfl, ?_⟩
           replace BK409 := bkb_ BK409 hb
           replace HB := hbs_ hb
           (try clear hb)
           (try clear hb2)
           (try clear hk)
           (try clear hi)
           refine hK.out _ _ ⟨(blk_cell BK409.out 0).trans rfl, (blk_cell BK409.out 1).trans rfl, (blk_cell BK409.out 2).trans rfl, (blk_cell BK409.out 3).trans rfl, (blk_cell BK409.out 4).trans rfl, (blk_cell BK409.out 5).trans rfl, (blk_cell BK409.out 6).trans rfl, (blk_cell BK409.out 7).trans rfl, (blk_cell BK409.out 8).trans rfl, (blk_cell BK409.out 9).trans rfl⟩ (fun hHeld => ?_)
           clear hK K
           refine norm_ (a' := ?_) ?_ ?_
           rotate_left
           ·show Act.put _ (some 49) _ = _
            simp only [Act.put, List.setIfInBounds_toArray, List.set_cons_zero, List.set_cons_succ, i64_w, i32_w]
            rfl
           refine pureZ_ (i := 44) (some 50) #[true, true, true, true, true, true, true, true, true, true, true, true, true, true, true, true, true, true, true, true, true, true, true, true, true, true, true, true, true, true, true, true, true, true, true, true, true, true, true, true, true, true, true, true, true, false] (any_of HT_.out (by kernel_rfl)) ?_
           refine pureZ_ (i := 45) (some 2) #[true, true, true, true, true, true, true, true, true, true, true, true, true, true, true, true, true, true, true, true, true, true, true, true, true, true, true, true, true, true, true, true, true, true, true, true, true, true, true, true, true, true, true, true, true, true] (any_of HT_.out (by kernel_rfl)) ?_
           refine done_ (done_of HT_.out (by kernel_rfl)) ?_
           try go_wp2
           go_ret
           exact ⟨eq_, bl_⟩
          ·rw [if_neg c22] at H
           exact absurd H (by simp)
         ·rw [if_neg c20] at H
          exact absurd H (by simp)
        ·rw [if_neg c18] at H
         exact absurd H (by simp)
       ·rw [if_neg c16] at H
        exact absurd H (by simp)
      ·rw [if_neg c14] at H
       exact absurd H (by simp)
     ·rw [if_neg c12] at H
      exact absurd H (by simp)
    ·rw [if_neg c10] at H
     exact absurd H (by simp)
   ·rw [if_neg c8] at H
    exact absurd H (by simp)
  ·rw [if_neg c6] at H
   exact absurd H (by simp)
 ·replace c3 := Bool.eq_false_iff.mpr c3
  subst c3
  replace H := ite_f_ H
  obtain rfl := Option.some.inj H
  go_enter Try.func105, Try.ntmps105
  go_wp2_with (first | ((with_reducible refine gate_dst (N := 1) rfl ?_); refine box_event ?hg (N := 1) ?hd (cs := #[.int .i64 a0_0, .int .i64 a0_1, .int .i64 a0_2, .int .i64 a0_3, .int .i64 a0_4, .int .i64 a0_5, .int .i64 a0_6, .int .i64 a0_7, .int .i64 a0_8, .int .i64 a0_9]) (t := 29) ?hr ?_; (case hd => rfl); (case hg => rfl); (case hr => first | (go_simp; done) | (go_simp; rfl)); intro gb409 hg w37 hbox hb; have BK409 := Aside0.mk (hbox); have GW409 := gs_ hg; have GE409 := gs_ hg; replace HB := hbs_ hb; clear hb hbox hg; have hcz38 := blk_cell BK409.out; have hfz38 := blk_frozen BK409.out) | ((with_reducible refine gate_callee (f := 68) rfl ?_); refine goesC_ (some 4) Try.func68 #[.agg #[.int .i64 a0_0, .int .i64 a0_1, .int .i64 a0_2, .int .i64 a0_3, .int .i64 a0_4, .int .i64 a0_5, .int .i64 a0_6, .int .i64 a0_7, .int .i64 a0_8, .int .i64 a0_9]] ?_; (with_reducible refine (spec_CredOk.calls k a0_0 a0_1 a0_2 a0_3 a0_4 a0_5 a0_6 a0_7 a0_8 a0_9 false _ A2.out).mono ?_); rintro e w39 ⟨rfl, hb⟩; refine ⟨_, rfl, ?_⟩; replace BK409 := bkb_ BK409 hb; replace HB := hbs_ hb; clear hb))
  go_ret
  exact ⟨eq_, bl_⟩
mutual
def spec_StepText.j0 : Nat → ByteArray → Bool → Int → Int → Int → Int → Int → Int → Int → Int → Int → Int → Int → Int → Int → List Int → Option (ByteArray × Bool)
 | 0, _, _, _, _, _, _, _, _, _, _, _, _, _, _, _, _ => none
 | k + 1, x4, x33, x422000, x422001, x422002, x422003, x422004, x422005, x422006, x422007, x422008, x422009, x422010, x422011, x422012, x422013 => if x33 = true then (some ((⟨#[]⟩ : ByteArray), false)) else ((spec_l01Var.f k (x4.size : Int)).bind fun t424 => (if t424.size + x4.size ≤ 9223372036854775807 then ((spec_l01Var.f k x422012).bind fun t425 => (if (t424 ++ x4).size + t425.size ≤ 9223372036854775807 then ((spec_l01Var.f k (x422013.length : Int)).bind fun t426 => (if ((t424 ++ x4) ++ t425).size + t426.size ≤ 9223372036854775807 then (spec_StepText.l0 k (((t424 ++ x4) ++ t425) ++ t426) 0 x422000 x422001 x422002 x422003 x422004 x422005 x422006 x422007 x422008 x422009 x422010 x422011 x422012 x422013) else (none))) else (none))) else (none)))
def spec_StepText.l0 : Nat → ByteArray → Int → Int → Int → Int → Int → Int → Int → Int → Int → Int → Int → Int → Int → Int → List Int → Option (ByteArray × Bool)
 | 0, _, _, _, _, _, _, _, _, _, _, _, _, _, _, _, _ => none
 | k + 1, x5, x6, x422000, x422001, x422002, x422003, x422004, x422005, x422006, x422007, x422008, x422009, x422010, x422011, x422012, x422013 => if x6 < (x422013.length : Int) then (if 0 ≤ x6 then ((spec_l01In.f (rd x422013 x6) 0 199).bind fun t428 => (if t428 = true then ((spec_l01Var.f k (rd x422013 x6)).bind fun t430 => (if x5.size + t430.size ≤ 9223372036854775807 then (spec_StepText.l0 k (x5 ++ t430) (wrap64 (x6 + 1)) x422000 x422001 x422002 x422003 x422004 x422005 x422006 x422007 x422008 x422009 x422010 x422011 x422012 x422013) else (none))) else (some ((⟨#[]⟩ : ByteArray), false)))) else (none)) else (some (x5, true))
end
def spec_StepText.f (k : Nat) (a0_0 : Int) (a0_1 : Int) (a0_2 : Int) (a0_3 : Int) (a0_4 : Int) (a0_5 : Int) (a0_6 : Int) (a0_7 : Int) (a0_8 : Int) (a0_9 : Int) (a0_10 : Int) (a0_11 : Int) (a0_12 : Int) (l0_13 : List Int) : Option (ByteArray × Bool) := (spec_CredText.f k a0_0 a0_1 a0_2 a0_3 a0_4 a0_5 a0_6 a0_7 a0_8 a0_9).bind fun t422 => (if t422.toList = ([] : List UInt8) then (spec_StepText.j0 k t422 true a0_0 a0_1 a0_2 a0_3 a0_4 a0_5 a0_6 a0_7 a0_8 a0_9 a0_10 a0_11 a0_12 l0_13) else (if (!(a0_10 == a0_1) || (!(a0_11 == a0_2))) = true then (spec_StepText.j0 k t422 true a0_0 a0_1 a0_2 a0_3 a0_4 a0_5 a0_6 a0_7 a0_8 a0_9 a0_10 a0_11 a0_12 l0_13) else ((spec_l01In.f a0_12 0 5).bind fun t423 => (if t423 = true then (spec_StepText.j0 k t422 (decide ((l0_13.length : Int) > 2)) a0_0 a0_1 a0_2 a0_3 a0_4 a0_5 a0_6 a0_7 a0_8 a0_9 a0_10 a0_11 a0_12 l0_13) else (spec_StepText.j0 k t422 true a0_0 a0_1 a0_2 a0_3 a0_4 a0_5 a0_6 a0_7 a0_8 a0_9 a0_10 a0_11 a0_12 l0_13)))))
def spec_StepText.T4 : Bool × List (List Nat × List Nat) := (true, [([], []), ([0], [0]), ([1], [1]), ([], []), ([2, 3], [2, 3]), ([], []), ([5], [5]), ([6], [6]), ([7, 2], [7]), ([4, 8], [4, 8]), ([], []), ([10], [10]), ([11], [11]), ([12, 8], [12]), ([9, 13], [9, 13]), ([14, 13, 0, 1, 2, 3, 4, 5, 6, 7, 8, 9, 10, 11, 12, 13, 14], [14])])
def spec_StepText.B4 : List Nat := [0, 1, 3, 0, 15, 0, 32, 96, 231, 511, 0, 1024, 3072, 7655, 16383, 32767]
theorem spec_StepText.tab4 : rtab .any (opsOf Try.f45 4) = spec_StepText.T4 := by kernel_rfl
theorem spec_StepText.bits4 : waitsOk spec_StepText.T4.2 spec_StepText.B4 = true := by kernel_rfl
set_option maxHeartbeats 8000000 in
set_option maxRecDepth 100000 in
theorem spec_StepText.calls (k : Nat) (a0_0 : Int) (a0_1 : Int) (a0_2 : Int) (a0_3 : Int) (a0_4 : Int) (a0_5 : Int) (a0_6 : Int) (a0_7 : Int) (a0_8 : Int) (a0_9 : Int) (a0_10 : Int) (a0_11 : Int) (a0_12 : Int) (A0_13 : Option Addr) (c0_13 : Nat) (l0_13 : List Int) (r1 : ByteArray) (r2 : Bool) (w : World) (hr0_13 : Kd.C (Kd.int .i64) w A0_13 l0_13.length l0_13) (hc0_13 : l0_13.length ≤ c0_13) (h : spec_StepText.f k a0_0 a0_1 a0_2 a0_3 a0_4 a0_5 a0_6 a0_7 a0_8 a0_9 a0_10 a0_11 a0_12 l0_13 = some (r1, r2)) :
  Calls Try.prog 45 #[.agg #[.int .i64 a0_0, .int .i64 a0_1, .int .i64 a0_2, .int .i64 a0_3, .int .i64 a0_4, .int .i64 a0_5, .int .i64 a0_6, .int .i64 a0_7, .int .i64 a0_8, .int .i64 a0_9, .int .i64 a0_10, .int .i64 a0_11, .int .i64 a0_12, .slice A0_13 l0_13.length c0_13]] w fun e w' => e = .returned (.tuple #[.string r1, .bool r2]) ∧ Below w.heap.size w w' := by
 have hu77 := Try.underlying77
 have hu29 := Try.underlying29
 have hu27 := Try.underlying27
 have HR0_13 := Aside0.mk hr0_13
 have HC0_13 := Aside0.mk hc0_13
 clear hr0_13 hc0_13
 have HB := Aside0.mk (Below.refl w.heap.size w)
 have H : ((spec_CredText.f k a0_0 a0_1 a0_2 a0_3 a0_4 a0_5 a0_6 a0_7 a0_8 a0_9).bind fun t422 => (if t422.toList = ([] : List UInt8) then (spec_StepText.j0 k t422 true a0_0 a0_1 a0_2 a0_3 a0_4 a0_5 a0_6 a0_7 a0_8 a0_9 a0_10 a0_11 a0_12 l0_13) else (if (!(a0_10 == a0_1) || (!(a0_11 == a0_2))) = true then (spec_StepText.j0 k t422 true a0_0 a0_1 a0_2 a0_3 a0_4 a0_5 a0_6 a0_7 a0_8 a0_9 a0_10 a0_11 a0_12 l0_13) else ((spec_l01In.f a0_12 0 5).bind fun t423 => (if t423 = true then (spec_StepText.j0 k t422 (decide ((l0_13.length : Int) > 2)) a0_0 a0_1 a0_2 a0_3 a0_4 a0_5 a0_6 a0_7 a0_8 a0_9 a0_10 a0_11 a0_12 l0_13) else (spec_StepText.j0 k t422 true a0_0 a0_1 a0_2 a0_3 a0_4 a0_5 a0_6 a0_7 a0_8 a0_9 a0_10 a0_11 a0_12 l0_13)))))) = some (r1, r2) := h
 clear h
 obtain ⟨t422, A2, H⟩ := bindE_ H
 have HC3 := Aside0.mk H
 clear H
 go_enter Try.func45, Try.ntmps45
 go_upto_region 2 with (first | ((with_reducible refine gate_dst (N := 1) rfl ?_); (try (refine gate_guard (by rfl) ?_; dsimp only)); refine box_event ?hg (N := 1) ?hd (cs := #[.int .i64 a0_0, .int .i64 a0_1, .int .i64 a0_2, .int .i64 a0_3, .int .i64 a0_4, .int .i64 a0_5, .int .i64 a0_6, .int .i64 a0_7, .int .i64 a0_8, .int .i64 a0_9, .int .i64 a0_10, .int .i64 a0_11, .int .i64 a0_12, .slice A0_13 l0_13.length c0_13]) (t := 77) ?hr ?_; (case hd => rfl); (case hg => rfl); (case hr => first | (go_simp; done) | (go_simp; rfl)); intro gb421 hg w4 hbox hb; have BK421 := Aside0.mk (hbox); have GW421 := gs_ hg; have GE421 := gs_ hg; replace HB := hbs_ hb; clear hb hbox hg; have hcz5 := blk_cell BK421.out; have hfz5 := blk_frozen BK421.out) | ((with_reducible refine gate_callee (f := 105) rfl ?_); refine goesC_ (some 9) Try.func105 #[.agg #[.int .i64 a0_0, .int .i64 a0_1, .int .i64 a0_2, .int .i64 a0_3, .int .i64 a0_4, .int .i64 a0_5, .int .i64 a0_6, .int .i64 a0_7, .int .i64 a0_8, .int .i64 a0_9]] ?_; (with_reducible refine (spec_CredText.calls k a0_0 a0_1 a0_2 a0_3 a0_4 a0_5 a0_6 a0_7 a0_8 a0_9 t422 _ A2.out).mono ?_); rintro e w6 ⟨rfl, hb⟩; refine ⟨_, rfl, ?_⟩; replace BK421 := bkb_ BK421 hb; replace HB := hbs_ hb; clear hb))
 (try simp only [Act.put, List.setIfInBounds_toArray, List.set_cons_zero, List.set_cons_succ])
 go_cut [33] (fun v33 wc => ∃ (kq : Nat) (x33_2 : Bool), v33 = .bool x33_2 ∧ Aside0 (spec_StepText.j0 kq t422 x33_2 a0_0 a0_1 a0_2 a0_3 a0_4 a0_5 a0_6 a0_7 a0_8 a0_9 a0_10 a0_11 a0_12 l0_13 = some (r1, r2)) ∧ Aside0 (kq ≤ k) ∧ Aside0 (wc.heap[gb421]? = some (.cells #[.int .i64 a0_0, .int .i64 a0_1, .int .i64 a0_2, .int .i64 a0_3, .int .i64 a0_4, .int .i64 a0_5, .int .i64 a0_6, .int .i64 a0_7, .int .i64 a0_8, .int .i64 a0_9, .int .i64 a0_10, .int .i64 a0_11, .int .i64 a0_12, (.slice A0_13 l0_13.length c0_13)] 77 (0, 0))) ∧ Aside0 (Below w.heap.size w wc))
 case first =>
  have H := HC3.out
  clear HC3
  by_cases c7 : t422.toList = ([] : List UInt8)
  ·rw [if_pos c7] at H
   have c7b0 : (t422.toList == ([] : List UInt8)) = true := beq_iff_eq.mpr c7
   have c7b1 : (t422.toList != ([] : List UInt8)) = false := bne_eq_false_iff_eq.mpr c7
   clear c7
   (first | rw [c7b0] | (simp only [i64_w, i32_w]; rw [c7b0]) | skip)
   have H' := Aside0.mk H
   clear H
   go_wp2
   go_meet
   case rel => exact ⟨_, (true), (by first | rfl | (simp; done) | (simp [*]; done)), H', ⟨by first | omega | exact Nat.le_refl _⟩, ⟨bk_ BK421⟩, ⟨bl_⟩⟩
  ·rw [if_neg c7] at H
   have c7b0 : (t422.toList == ([] : List UInt8)) = false := beq_eq_false_iff_ne.mpr c7
   have c7b1 : (t422.toList != ([] : List UInt8)) = true := bne_iff_ne.mpr c7
   (first | rw [c7b0] | (simp only [i64_w, i32_w]; rw [c7b0]) | skip)
   by_cases c8 : (!(a0_10 == a0_1) || (!(a0_11 == a0_2))) = true
   ·rw [if_pos c8] at H
    have c8b0 : (!(a0_10 == a0_1) || (!(a0_11 == a0_2))) = true := c8
    clear c8
    have H' := Aside0.mk H
    clear H
    have hcz9 := blk_cell BK421.out
    have hfz9 := blk_frozen BK421.out
    go_wp2
    go_meet
    case rel => exact ⟨_, (true), (by first | rfl | (simp; done) | (simp [*]; done)), H', ⟨by first | omega | exact Nat.le_refl _⟩, ⟨bk_ BK421⟩, ⟨bl_⟩⟩
   ·rw [if_neg c8] at H
    have c8b0 : (!(a0_10 == a0_1) || (!(a0_11 == a0_2))) = false := by simpa using c8
    clear c8
    obtain ⟨t423, A10, H⟩ := bindE_ H
    by_cases c11 : t423 = true
    ·subst c11
     replace H := ite_t_ H
     have H' := Aside0.mk H
     clear H
     have hcz12 := blk_cell BK421.out
     have hfz12 := blk_frozen BK421.out
     go_wp2_with (first | (go_at_call 75; (with_reducible refine (spec_l01In.calls a0_12 0 5 true _ A10.out).mono ?_); rintro e w' ⟨rfl, ⟨nd, rfl⟩⟩))
     go_meet
     case rel => exact ⟨_, (decide ((l0_13.length : Int) > 2)), (by first | rfl | (simp; done) | (simp [*]; done)), H', ⟨by first | omega | exact Nat.le_refl _⟩, ⟨bk_ BK421⟩, ⟨bl_⟩⟩
    ·replace c11 := Bool.eq_false_iff.mpr c11
     subst c11
     replace H := ite_f_ H
     have H' := Aside0.mk H
     clear H
     have hcz13 := blk_cell BK421.out
     have hfz13 := blk_frozen BK421.out
     go_wp2_with (first | (go_at_call 75; (with_reducible refine (spec_l01In.calls a0_12 0 5 false _ A10.out).mono ?_); rintro e w' ⟨rfl, ⟨nd, rfl⟩⟩))
     go_meet
     case rel => exact ⟨_, (true), (by first | rfl | (simp; done) | (simp [*]; done)), H', ⟨by first | omega | exact Nat.le_refl _⟩, ⟨bk_ BK421⟩, ⟨bl_⟩⟩
 case rest =>
  clear HC3
  try clear c1
  try clear p2
  try clear c4
  try clear c7
  try clear c7b0
  try clear c7b1
  try clear c8
  try clear c8b0
  try clear c10
  try clear c11
  try clear hcz12
  try clear hcz13
  try clear hcz5
  try clear hcz9
  try clear hfz12
  try clear hfz13
  try clear hfz5
  try clear hfz9
  obtain ⟨kq, x33_2, rfl, HA, HJ2, BK421, HB⟩ := hcut
  cases kq with
  | zero => exact absurd HA.out (by simp [spec_StepText.j0])
  | succ kj2 =>
   have H := HA.out
   clear HA
   simp only [spec_StepText.j0] at H
   by_cases c14 : x33_2 = true
   ·subst c14
    replace H := ite_t_ H
    simp only [Option.some.injEq, Prod.mk.injEq] at H
    obtain ⟨rfl, rfl⟩ := H
    go_wp2
    go_ret2
    exact ⟨eq_, bl_⟩
   ·replace c14 := Bool.eq_false_iff.mpr c14
    subst c14
    replace H := ite_f_ H
    obtain ⟨t424, A15, H⟩ := bindE_ H
    by_cases c16 : t424.size + t422.size ≤ 9223372036854775807
    ·rw [if_pos c16] at H
     have c16b0 := eq_true c16
     have c16b1 : decide (t424.size + t422.size ≤ 9223372036854775807) = true := decide_eq_true c16
     try have c16b2 : (9223372036854775807 < t424.size + t422.size) = False := eq_false (Nat.not_lt.2 c16)
     obtain ⟨t425, A17, H⟩ := bindE_ H
     by_cases c18 : (t424 ++ t422).size + t425.size ≤ 9223372036854775807
     ·rw [if_pos c18] at H
      have c18b0 := eq_true c18
      have c18b1 : decide ((t424 ++ t422).size + t425.size ≤ 9223372036854775807) = true := decide_eq_true c18
      try have c18b2 : (9223372036854775807 < (t424 ++ t422).size + t425.size) = False := eq_false (Nat.not_lt.2 c18)
      (try (have c18b3 := c18b2; simp only [ByteArray.size_append] at c18b3)); (try (have c18b4 := c18b0; simp only [ByteArray.size_append] at c18b4))
      obtain ⟨t426, A19, H⟩ := bindE_ H
      by_cases c20 : ((t424 ++ t422) ++ t425).size + t426.size ≤ 9223372036854775807
      ·rw [if_pos c20] at H
       have c20b0 := eq_true c20
       have c20b1 : decide (((t424 ++ t422) ++ t425).size + t426.size ≤ 9223372036854775807) = true := decide_eq_true c20
       try have c20b2 : (9223372036854775807 < ((t424 ++ t422) ++ t425).size + t426.size) = False := eq_false (Nat.not_lt.2 c20)
       (try (have c20b3 := c20b2; simp only [ByteArray.size_append] at c20b3)); (try (have c20b4 := c20b0; simp only [ByteArray.size_append] at c20b4))
       have H' := Aside0.mk H
       clear H
       try go_wp2
       replace BK421 := Aside0.mk (blk_drew BK421.out)
       replace HB := Aside0.mk (below_drew1 HB.out)
       refine start_ (n := 16) (S := fun w' => w'.cell? ⟨gb421, 0, none⟩ = some (.int .i64 a0_0) ∧ w'.cell? ⟨gb421, 1, none⟩ = some (.int .i64 a0_1) ∧ w'.cell? ⟨gb421, 2, none⟩ = some (.int .i64 a0_2) ∧ w'.cell? ⟨gb421, 3, none⟩ = some (.int .i64 a0_3) ∧ w'.cell? ⟨gb421, 4, none⟩ = some (.int .i64 a0_4) ∧ w'.cell? ⟨gb421, 5, none⟩ = some (.int .i64 a0_5) ∧ w'.cell? ⟨gb421, 6, none⟩ = some (.int .i64 a0_6) ∧ w'.cell? ⟨gb421, 7, none⟩ = some (.int .i64 a0_7) ∧ w'.cell? ⟨gb421, 8, none⟩ = some (.int .i64 a0_8) ∧ w'.cell? ⟨gb421, 9, none⟩ = some (.int .i64 a0_9) ∧ w'.cell? ⟨gb421, 10, none⟩ = some (.int .i64 a0_10) ∧ w'.cell? ⟨gb421, 11, none⟩ = some (.int .i64 a0_11) ∧ w'.cell? ⟨gb421, 12, none⟩ = some (.int .i64 a0_12) ∧ w'.cell? ⟨gb421, 13, none⟩ = some (.slice A0_13 l0_13.length c0_13)) (ds := []) #[false, false, false, false, false, false, false, false, false, false, false, false, false, false, false, false] (by kernel_rfl) rfl rfl ⟨(blk_cell BK421.out 0).trans rfl, (blk_cell BK421.out 1).trans rfl, (blk_cell BK421.out 2).trans rfl, (blk_cell BK421.out 3).trans rfl, (blk_cell BK421.out 4).trans rfl, (blk_cell BK421.out 5).trans rfl, (blk_cell BK421.out 6).trans rfl, (blk_cell BK421.out 7).trans rfl, (blk_cell BK421.out 8).trans rfl, (blk_cell BK421.out 9).trans rfl, (blk_cell BK421.out 10).trans rfl, (blk_cell BK421.out 11).trans rfl, (blk_cell BK421.out 12).trans rfl, (blk_cell BK421.out 13).trans rfl⟩ (fun hHeld => ?_); refine with_tabW spec_StepText.tab4 spec_StepText.bits4 (fun HT_ HW_ => ?_)
       generalize wc.drew = w21 at BK421 HB hHeld ⊢
       refine pureZ_ (i := 0) (some 34) #[true, false, false, false, false, false, false, false, false, false, false, false, false, false, false, false] (any_of HT_.out (by kernel_rfl)) ?_
       refine pureZ_ (i := 1) (some 35) #[true, true, false, false, false, false, false, false, false, false, false, false, false, false, false, false] (any_of HT_.out (by kernel_rfl)) ?_
       refine pureZ_ (i := 3) (some 37) #[true, true, false, true, false, false, false, false, false, false, false, false, false, false, false, false] (any_of HT_.out (by kernel_rfl)) ?_
       refine pureZ_ (i := 5) (some 39) #[true, true, false, true, false, true, false, false, false, false, false, false, false, false, false, false] (any_of HT_.out (by kernel_rfl)) ?_
       refine pureZ_ (i := 6) (some 40) #[true, true, false, true, false, true, true, false, false, false, false, false, false, false, false, false] (any_of HT_.out (by kernel_rfl)) ?_
       refine pureZ_ (i := 10) (some 44) #[true, true, false, true, false, true, true, false, false, false, true, false, false, false, false, false] (any_of HT_.out (by kernel_rfl)) ?_
       refine takeZ_ (i := 7) (some 41) #[true, true, false, true, false, true, true, true, false, false, true, false, false, false, false, false] (take_ofW HT_.out HW_.out (by kernel_rfl)) hHeld ?_
       refine takeZ_ (i := 11) (some 45) #[true, true, false, true, false, true, true, true, false, false, true, true, false, false, false, false] (take_ofW HT_.out HW_.out (by kernel_rfl)) hHeld ?_
       refine pureZ_ (i := 12) (some 46) #[true, true, false, true, false, true, true, true, false, false, true, true, true, false, false, false] (any_of HT_.out (by kernel_rfl)) ?_
       refine one_ (i := 2) (N := some 36) #[true, true, true, true, false, true, true, true, false, false, true, true, true, false, false, false] rfl rfl (one_of HT_.out (by kernel_rfl)) (by decide) (fun K hK => ?_)
       refine goes_ Try.func82 (by kernel_rfl) rfl #[.int .i64 (t422.size : Int)] (by rfl) rfl rfl (by (try simp only [List.map_toArray, List.map_cons, List.map_nil]); first | done | rfl | (simp only [List.length_drop, List.length_take]; rfl)) ?_
       with_reducible refine (spec_l01Var.calls kj2 (t422.size : Int) t424 _ A15.out).mono ?_
       rintro e w22 ⟨rfl, hb⟩
       refine ⟨_, rfl, ?_⟩
       replace BK421 := bkb_ BK421 hb
       replace HB := hbs_ hb
       (try clear hb)
       (try clear hb2)
       (try clear hk)
       (try clear hi)
       refine hK.out _ _ ⟨(blk_cell BK421.out 0).trans rfl, (blk_cell BK421.out 1).trans rfl, (blk_cell BK421.out 2).trans rfl, (blk_cell BK421.out 3).trans rfl, (blk_cell BK421.out 4).trans rfl, (blk_cell BK421.out 5).trans rfl, (blk_cell BK421.out 6).trans rfl, (blk_cell BK421.out 7).trans rfl, (blk_cell BK421.out 8).trans rfl, (blk_cell BK421.out 9).trans rfl, (blk_cell BK421.out 10).trans rfl, (blk_cell BK421.out 11).trans rfl, (blk_cell BK421.out 12).trans rfl, (blk_cell BK421.out 13).trans rfl⟩ (fun hHeld => ?_)
       clear hK K
       refine norm_ (a' := ?_) ?_ ?_
       rotate_left
       ·show Act.put _ (some 36) _ = _
        simp only [Act.put, List.setIfInBounds_toArray, List.set_cons_zero, List.set_cons_succ, i64_w, i32_w]
        rfl
       refine pureZ_ (i := 4) (some 38) #[true, true, true, true, true, true, true, true, false, false, true, true, true, false, false, false] (any_of HT_.out (by kernel_rfl)) ?_
       refine one_ (i := 8) (N := some 42) #[true, true, true, true, true, true, true, true, true, false, true, true, true, false, false, false] rfl rfl (one_of HT_.out (by kernel_rfl)) (by decide) (fun K hK => ?_)
       refine goes_ Try.func82 (by kernel_rfl) rfl #[.int .i64 a0_12] (by rfl) rfl rfl (by (try simp only [List.map_toArray, List.map_cons, List.map_nil]); first | done | rfl | (simp only [List.length_drop, List.length_take]; rfl)) ?_
       with_reducible refine (spec_l01Var.calls kj2 a0_12 t425 _ A17.out).mono ?_
       rintro e w23 ⟨rfl, hb⟩
       refine ⟨_, rfl, ?_⟩
       replace BK421 := bkb_ BK421 hb
       replace HB := hbs_ hb
       (try clear hb)
       (try clear hb2)
       (try clear hk)
       (try clear hi)
       refine hK.out _ _ ⟨(blk_cell BK421.out 0).trans rfl, (blk_cell BK421.out 1).trans rfl, (blk_cell BK421.out 2).trans rfl, (blk_cell BK421.out 3).trans rfl, (blk_cell BK421.out 4).trans rfl, (blk_cell BK421.out 5).trans rfl, (blk_cell BK421.out 6).trans rfl, (blk_cell BK421.out 7).trans rfl, (blk_cell BK421.out 8).trans rfl, (blk_cell BK421.out 9).trans rfl, (blk_cell BK421.out 10).trans rfl, (blk_cell BK421.out 11).trans rfl, (blk_cell BK421.out 12).trans rfl, (blk_cell BK421.out 13).trans rfl⟩ (fun hHeld => ?_)
       clear hK K
       refine norm_ (a' := ?_) ?_ ?_
       rotate_left
       ·show Act.put _ (some 42) _ = _
        simp only [Act.put, List.setIfInBounds_toArray, List.set_cons_zero, List.set_cons_succ, i64_w, i32_w]
        rfl
       refine pureZ_ (i := 9) (some 43) #[true, true, true, true, true, true, true, true, true, true, true, true, true, false, false, false] (any_of HT_.out (by kernel_rfl)) ?_
       refine one_ (i := 13) (N := some 47) #[true, true, true, true, true, true, true, true, true, true, true, true, true, true, false, false] rfl rfl (one_of HT_.out (by kernel_rfl)) (by decide) (fun K hK => ?_)
       refine goes_ Try.func82 (by kernel_rfl) rfl #[.int .i64 (l0_13.length : Int)] (by rfl) rfl rfl (by (try simp only [List.map_toArray, List.map_cons, List.map_nil]); first | done | rfl | (simp only [List.length_drop, List.length_take]; rfl)) ?_
       with_reducible refine (spec_l01Var.calls kj2 (l0_13.length : Int) t426 _ A19.out).mono ?_
       rintro e w24 ⟨rfl, hb⟩
       refine ⟨_, rfl, ?_⟩
       replace BK421 := bkb_ BK421 hb
       replace HB := hbs_ hb
       (try clear hb)
       (try clear hb2)
       (try clear hk)
       (try clear hi)
       refine hK.out _ _ ⟨(blk_cell BK421.out 0).trans rfl, (blk_cell BK421.out 1).trans rfl, (blk_cell BK421.out 2).trans rfl, (blk_cell BK421.out 3).trans rfl, (blk_cell BK421.out 4).trans rfl, (blk_cell BK421.out 5).trans rfl, (blk_cell BK421.out 6).trans rfl, (blk_cell BK421.out 7).trans rfl, (blk_cell BK421.out 8).trans rfl, (blk_cell BK421.out 9).trans rfl, (blk_cell BK421.out 10).trans rfl, (blk_cell BK421.out 11).trans rfl, (blk_cell BK421.out 12).trans rfl, (blk_cell BK421.out 13).trans rfl⟩ (fun hHeld => ?_)
       clear hK K
       refine norm_ (a' := ?_) ?_ ?_
       rotate_left
       ·show Act.put _ (some 47) _ = _
        simp only [Act.put, List.setIfInBounds_toArray, List.set_cons_zero, List.set_cons_succ, i64_w, i32_w]
        rfl
       refine pureZ_ (i := 14) (some 48) #[true, true, true, true, true, true, true, true, true, true, true, true, true, true, true, false] (any_of HT_.out (by kernel_rfl)) ?_
       refine pureZ_ (i := 15) (some 5) #[true, true, true, true, true, true, true, true, true, true, true, true, true, true, true, true] (any_of HT_.out (by kernel_rfl)) ?_
       refine done_ (done_of HT_.out (by kernel_rfl)) ?_
       try go_wp2
       go_loopg [5, 6] kj2 (fun kq v5 v6 w' => ∃ (x5_2 : ByteArray) (x6_2 : Int), v5 = .string x5_2 ∧ v6 = .int .i64 x6_2 ∧ Aside0 (spec_StepText.l0 kq x5_2 x6_2 a0_0 a0_1 a0_2 a0_3 a0_4 a0_5 a0_6 a0_7 a0_8 a0_9 a0_10 a0_11 a0_12 l0_13 = some (r1, r2)) ∧ Aside0 (kq ≤ kj2) ∧ Aside0 (w'.heap[gb421]? = some (.cells #[.int .i64 a0_0, .int .i64 a0_1, .int .i64 a0_2, .int .i64 a0_3, .int .i64 a0_4, .int .i64 a0_5, .int .i64 a0_6, .int .i64 a0_7, .int .i64 a0_8, .int .i64 a0_9, .int .i64 a0_10, .int .i64 a0_11, .int .i64 a0_12, (.slice A0_13 l0_13.length c0_13)] 77 (0, 0))) ∧ Aside0 (Below w.heap.size w w'))
       case atStart => exact ⟨(((t424 ++ t422) ++ t425) ++ t426), (0), (by first | rfl | (simp; done) | (simp [*]; done)), (by first | rfl | (simp; done) | (simp [*]; done)), H', ⟨Nat.le_refl _⟩, ⟨bk_ BK421⟩, ⟨bl_⟩⟩
       case round =>
        clear H'
        try clear c1
        try clear c2
        try clear p2
        try clear c4
        try clear c7
        try clear c7b0
        try clear c7b1
        try clear c8
        try clear c8b0
        try clear c10
        try clear c11
        try clear c14
        try clear c16
        try clear c16b0
        try clear c16b1
        try clear c16b2
        try clear c18
        try clear c18b0
        try clear c18b1
        try clear c18b2
        try clear c20
        try clear c20b0
        try clear c20b1
        try clear c20b2
        try clear hcz12
        try clear hcz13
        try clear hcz5
        try clear hcz9
        try clear hfz12
        try clear hfz13
        try clear hfz5
        try clear hfz9
        try clear p2
        obtain ⟨x5_2, x6_2, rfl, rfl, HA, HK2, BK421, HB⟩ := hrel
        cases gk with
        | zero => exact absurd HA.out (by simp [spec_StepText.l0])
        | succ k2 =>
         have H := HA.out
         clear HA
         simp only [spec_StepText.l0] at H
         by_cases c25 : x6_2 < (l0_13.length : Int)
         ·rw [if_pos c25] at H
          have c25b0 : decide (x6_2 < (l0_13.length : Int)) = true := decide_eq_true c25
          clear c25
          by_cases c26 : 0 ≤ x6_2
          ·rw [if_pos c26] at H
           have c26b0 : decide (0 ≤ x6_2) = true := decide_eq_true c26
           clear c26
           obtain ⟨t428, A27, H⟩ := bindE_ H
           by_cases c28 : t428 = true
           ·subst c28
            replace H := ite_t_ H
            obtain ⟨t430, A29, H⟩ := bindE_ H
            by_cases c30 : x5_2.size + t430.size ≤ 9223372036854775807
            ·rw [if_pos c30] at H
             have c30b0 := eq_true c30
             have c30b1 : decide (x5_2.size + t430.size ≤ 9223372036854775807) = true := decide_eq_true c30
             try have c30b2 : (9223372036854775807 < x5_2.size + t430.size) = False := eq_false (Nat.not_lt.2 c30)
             have H' := Aside0.mk H
             clear H
             have hcz31 := blk_cell BK421.out
             have hfz31 := blk_frozen BK421.out
             have p427 : 0 ≤ (x6_2 : Int) := of_decide_eq_true (by first | (with_reducible assumption) | assumption)
             have q427 : x6_2 < (l0_13.length : Int) := of_decide_eq_true (by first | (with_reducible assumption) | assumption)
             obtain ⟨ad427, e427, hx427_0⟩ := Kd.at_int (Kd.C_below HR0_13.out HB.out) x6_2 p427 q427
             cases e427
             replace p427 := eq_true p427
             replace q427 := eq_true q427
             go_wp2_with (first | ((with_reducible refine gate_callee (f := 75) rfl ?_); refine goesC_ (some 61) Try.func75 #[.int .i64 (rd l0_13 x6_2), .int .i64 0, .int .i64 199] ?_; (with_reducible refine (spec_l01In.calls (rd l0_13 x6_2) 0 199 true _ A27.out).mono ?_); rintro e w' ⟨rfl, ⟨nd, rfl⟩⟩; refine ⟨_, rfl, ?_⟩; have p429 : 0 ≤ (x6_2 : Int) := of_decide_eq_true (by first | (with_reducible assumption) | assumption); have q429 : x6_2 < (l0_13.length : Int) := of_decide_eq_true (by first | (with_reducible assumption) | assumption); obtain ⟨ad429, e429, hx429_0⟩ := Kd.at_int HR0_13.out x6_2 p429 q429; obtain rfl : ad427 = ad429 := (by injection e429); replace hx429_0 := cb_ HB hx429_0; replace p429 := eq_true p429; replace q429 := eq_true q429) | ((with_reducible refine gate_callee (f := 82) rfl ?_); refine goesC_ (some 69) Try.func82 #[.int .i64 (rd l0_13 x6_2)] ?_; (with_reducible refine (spec_l01Var.calls k2 (rd l0_13 x6_2) t430 _ A29.out).mono ?_); rintro e w32 ⟨rfl, hb⟩; refine ⟨_, rfl, ?_⟩; replace BK421 := bkb_ BK421 hb; replace HB := hbs_ hb; clear hb))
             go_roundg k2
             case measure => have := HJ2.out; have := HK2.out; omega
             case rel => exact ⟨(x5_2 ++ t430), (wrap64 (x6_2 + 1)), (by first | rfl | (simp; done) | (simp [*]; done)), (by first | rfl | (simp; done) | (simp [*]; done)), H', ⟨by have := HJ2.out; have := HK2.out; omega⟩, ⟨bk_ BK421⟩, ⟨bl_⟩⟩
            ·rw [if_neg c30] at H
             exact absurd H (by simp)
           ·replace c28 := Bool.eq_false_iff.mpr c28
            subst c28
            replace H := ite_f_ H
            simp only [Option.some.injEq, Prod.mk.injEq] at H
            obtain ⟨rfl, rfl⟩ := H
            have hcz33 := blk_cell BK421.out
            have hfz33 := blk_frozen BK421.out
            have p427 : 0 ≤ (x6_2 : Int) := of_decide_eq_true (by first | (with_reducible assumption) | assumption)
            have q427 : x6_2 < (l0_13.length : Int) := of_decide_eq_true (by first | (with_reducible assumption) | assumption)
            obtain ⟨ad427, e427, hx427_0⟩ := Kd.at_int (Kd.C_below HR0_13.out HB.out) x6_2 p427 q427
            cases e427
            replace p427 := eq_true p427
            replace q427 := eq_true q427
            go_wp2_with (first | ((with_reducible refine gate_callee (f := 75) rfl ?_); refine goesC_ (some 61) Try.func75 #[.int .i64 (rd l0_13 x6_2), .int .i64 0, .int .i64 199] ?_; (with_reducible refine (spec_l01In.calls (rd l0_13 x6_2) 0 199 false _ A27.out).mono ?_); rintro e w' ⟨rfl, ⟨nd, rfl⟩⟩; refine ⟨_, rfl, ?_⟩))
            go_ret2
            exact ⟨eq_, bl_⟩
          ·rw [if_neg c26] at H
           exact absurd H (by simp)
         ·rw [if_neg c25] at H
          have c25b0 : decide (x6_2 < (l0_13.length : Int)) = false := decide_eq_false c25
          clear c25
          simp only [Option.some.injEq, Prod.mk.injEq] at H
          obtain ⟨rfl, rfl⟩ := H
          have hcz34 := blk_cell BK421.out
          have hfz34 := blk_frozen BK421.out
          go_wp2
          go_ret2
          exact ⟨eq_, bl_⟩
      ·rw [if_neg c20] at H
       exact absurd H (by simp)
     ·rw [if_neg c18] at H
      exact absurd H (by simp)
    ·rw [if_neg c16] at H
     exact absurd H (by simp)
def laws_toFact.f (a0_0 : Int) (a0_1 : Int) (a0_2 : Int) : Option (Int × Int × Int) := (laws_toRole.f a0_0 a0_1).bind fun bt434 => (some (bt434.1, bt434.2, a0_2))
set_option maxHeartbeats 8000000 in
set_option maxRecDepth 100000 in
theorem laws_toFact.calls (a0_0 : Int) (a0_1 : Int) (a0_2 : Int) (r1 : Int) (r2 : Int) (r3 : Int) (w : World) (h : laws_toFact.f a0_0 a0_1 a0_2 = some (r1, r2, r3)) :
  Calls Try.prog 106 #[.agg #[.int .i64 a0_0, .int .i64 a0_1, .int .i64 a0_2]] w fun e w' => e = .returned (.agg #[.int .i64 r1, .int .i64 r2, .int .i64 r3]) ∧ Below w.heap.size w w' := by
 have hu69 := Try.underlying69
 have hu55 := Try.underlying55
 have hu23 := Try.underlying23
 have hu27 := Try.underlying27
 have HB := Aside0.mk (Below.refl w.heap.size w)
 have H : ((laws_toRole.f a0_0 a0_1).bind fun bt434 => (some (bt434.1, bt434.2, a0_2))) = some (r1, r2, r3) := h
 clear h
 obtain ⟨⟨t434, t435⟩, A2, H⟩ := bindE_ H
 replace H : (some (t434, t435, a0_2)) = some (r1, r2, r3) := H
 simp only [Option.some.injEq, Prod.mk.injEq] at H
 obtain ⟨rfl, rfl, rfl⟩ := H
 go_enter Try.func106, Try.ntmps106
 go_wp2_with (first | ((with_reducible refine gate_dst (N := 1) rfl ?_); refine box_event ?hg (N := 1) ?hd (cs := #[.int .i64 a0_0, .int .i64 a0_1, .int .i64 a0_2]) (t := 69) ?hr ?_; (case hd => rfl); (case hg => rfl); (case hr => first | (go_simp; done) | (go_simp; rfl)); intro gb431 hg w3 hbox hb; have BK431 := Aside0.mk (hbox); have GW431 := gs_ hg; have GE431 := gs_ hg; replace HB := hbs_ hb; clear hb hbox hg) | ((with_reducible refine gate_dst (N := 2) rfl ?_); refine box_event ?hg (N := 2) ?hd (cs := #[.int .i64 0, .int .i64 0, .int .i64 0]) (t := 55) ?hr ?_; (case hd => rfl); (case hg => rfl); (case hr => first | (go_simp; done) | (go_simp; rfl)); intro gb432 hg w4 hbox hb; have BK432 := Aside0.mk (hbox); have GW432 := gs_ hg; have GE432 := gs_ hg; replace HB := hbs_ hb; have NB431_432 := Aside0.mk ((by rw [hg]; exact Nat.ne_of_lt (blk_lt (g := gb431) (o := .cells #[.int .i64 a0_0, .int .i64 a0_1, .int .i64 a0_2] 69 (0, 0)) (bk_ BK431)) : gb431 ≠ gb432)); have NB432_431 := Aside0.mk ((by rw [hg]; exact Nat.ne_of_gt (blk_lt (g := gb431) (o := .cells #[.int .i64 a0_0, .int .i64 a0_1, .int .i64 a0_2] 69 (0, 0)) (bk_ BK431)) : gb432 ≠ gb431)); replace BK431 := bkb_ BK431 hb; clear hb hbox hg) | ((with_reducible refine gate_dst (N := 3) rfl ?_); refine box_event ?hg (N := 3) ?hd (cs := #[.int .i64 0, .int .i64 0, .int .i64 0]) (t := 55) ?hr ?_; (case hd => rfl); (case hg => rfl); (case hr => first | (go_simp; done) | (go_simp; rfl)); intro gb433 hg w5 hbox hb; have BK433 := Aside0.mk (hbox); have GW433 := gs_ hg; have GE433 := gs_ hg; replace HB := hbs_ hb; have NB431_433 := Aside0.mk ((by rw [hg]; exact Nat.ne_of_lt (blk_lt (g := gb431) (o := .cells #[.int .i64 a0_0, .int .i64 a0_1, .int .i64 a0_2] 69 (0, 0)) (bk_ BK431)) : gb431 ≠ gb433)); have NB433_431 := Aside0.mk ((by rw [hg]; exact Nat.ne_of_gt (blk_lt (g := gb431) (o := .cells #[.int .i64 a0_0, .int .i64 a0_1, .int .i64 a0_2] 69 (0, 0)) (bk_ BK431)) : gb433 ≠ gb431)); replace BK431 := bkb_ BK431 hb; have NB432_433 := Aside0.mk ((by rw [hg]; exact Nat.ne_of_lt (blk_lt (g := gb432) (o := .cells #[.int .i64 0, .int .i64 0, .int .i64 0] 55 (0, 0)) (bk_ BK432)) : gb432 ≠ gb433)); have NB433_432 := Aside0.mk ((by rw [hg]; exact Nat.ne_of_gt (blk_lt (g := gb432) (o := .cells #[.int .i64 0, .int .i64 0, .int .i64 0] 55 (0, 0)) (bk_ BK432)) : gb433 ≠ gb432)); replace BK432 := bkb_ BK432 hb; clear hb hbox hg; have hnb6 := NB431_432.out; have hnc6 := NB432_431.out; have hnb7 := NB431_433.out; have hnc7 := NB433_431.out; have hcz8 := blk_cell BK431.out; have hfz8 := blk_frozen BK431.out) | ((with_reducible refine gate_callee (f := 64) rfl ?_); refine goesC_ (some 6) Try.func64 #[.agg #[.int .i64 a0_0, .int .i64 a0_1]] ?_; (with_reducible refine (laws_toRole.calls a0_0 a0_1 t434 t435 _ A2.out).mono ?_); rintro e w9 ⟨rfl, hb⟩; refine ⟨_, rfl, ?_⟩; replace BK431 := bkb_ BK431 hb; replace BK432 := bkb_ BK432 hb; replace BK433 := bkb_ BK433 hb; replace HB := hbs_ hb; clear hb; have hnb10 := NB433_432.out; have hnc10 := NB432_433.out; have hcz11 := blk_cell BK433.out; have hfz11 := blk_frozen BK433.out; have hcz12 := blk_cell BK431.out; have hfz12 := blk_frozen BK431.out; have hcz13 := blk_cell BK432.out; have hfz13 := blk_frozen BK432.out))
 refine bodyPost_ret (results_cell_row rfl _ _ gb432 55 #[.int .i64 t434, .int .i64 t435, .int .i64 a0_2] (0, 0) _ rfl (bk_ BK432) Try.underlying55 rfl (by kernel_rfl)) rfl ?_
 exact ⟨eq_, bl_⟩
end Go.Proofs.Ytcgnegnljffkmaa.PA
