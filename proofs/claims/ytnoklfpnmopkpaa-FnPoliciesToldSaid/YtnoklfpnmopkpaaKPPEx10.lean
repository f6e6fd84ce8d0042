import Derived.Test.YtnoklfpnmopkpaaKPPEx9
-- printed by wip/tools
namespace Go.Proofs.Ytnoklfpnmopkpaa.PE
open Go.RowKit Go.Proofs.YtnoklfpnmopkpaaW.PrintWords Go.Proofs.YtnoklfpnmopkpaaW.PrintLast Go.Proofs.YtnoklfpnmopkpaaW.PrintMore
attribute [local go_sem] max2_int min2_int max_two min_two max_three min_three max_four min_four
set_option linter.unusedVariables false
set_option linter.unusedSimpArgs false
attribute [local go_sem high] eqA55
def spec_l02Spoilt.j0 : Nat → ByteArray → Bool → List Int → Int → Int → Option (ByteArray × Int × Int)
 | 0, _, _, _, _, _ => none
 | k + 1, x1, x23, x1000, x1001, x1002 => if x23 = true then (if (x1.size : Int) > 0 then ((spec_l01Below.f x1000 x1001 x1002 (x1.size : Int)).bind fun bt403 => (if 0 ≤ bt403.1 then (if bt403.1 ≤ (x1.size : Int) then ((spec_l01Text.f k x1000 bt403.2.1 bt403.2.2 1).bind fun bt406 => (if (x1.extract 0 (bt403.1 : Int).toNat).size + bt406.1.size ≤ 9223372036854775807 then (if 0 ≤ (wrap64 (bt403.1 + 1)) then (if (wrap64 (bt403.1 + 1)) ≤ (x1.size : Int) then (if ((x1.extract 0 (bt403.1 : Int).toNat) ++ bt406.1).size + (x1.extract ((wrap64 (bt403.1 + 1)) : Int).toNat x1.size).size ≤ 9223372036854775807 then (some (((x1.extract 0 (bt403.1 : Int).toNat) ++ bt406.1) ++ (x1.extract ((wrap64 (bt403.1 + 1)) : Int).toNat x1.size), bt406.2.1, bt406.2.2)) else (none)) else (none)) else (none)) else (none))) else (none)) else (none))) else (some (x1, x1001, x1002))) else (some (x1, x1001, x1002))
def spec_l02Spoilt.f (k : Nat) (s0_0 : List Int) (s0_1 : Int) (s0_2 : Int) (a1 : ByteArray) : Option (ByteArray × Int × Int) := (spec_l01Below.f s0_0 s0_1 s0_2 12).bind fun bt394 => (if bt394.1 = 0 then ((spec_l01Text.f k s0_0 bt394.2.1 bt394.2.2 1).bind fun bt397 => (if a1.size + bt397.1.size ≤ 9223372036854775807 then (some (a1 ++ bt397.1, bt397.2.1, bt397.2.2)) else (none))) else (if bt394.1 = 1 then ((spec_l01Below.f s0_0 bt394.2.1 bt394.2.2 (wrap64 ((a1.size : Int) + 1))).bind fun bt400 => (if 0 ≤ bt400.1 then (if bt400.1 ≤ (a1.size : Int) then (some (a1.extract 0 (bt400.1 : Int).toNat, bt400.2.1, bt400.2.2)) else (none)) else (none))) else (if bt394.1 = 2 then (spec_l02Spoilt.j0 k a1 (bt394.1 == 2) s0_0 bt394.2.1 bt394.2.2) else (spec_l02Spoilt.j0 k a1 (bt394.1 == 3) s0_0 bt394.2.1 bt394.2.2))))
def spec_l02Spoilt.T10 : Bool × List (List Nat × List Nat) := (true, [([], []), ([], []), ([0, 1], [0, 1]), ([], []), ([3], [3]), ([2, 4], [2, 4]), ([], []), ([], []), ([7], [7]), ([6, 8], [6, 8]), ([5, 9], [5, 9]), ([10, 4, 0, 1, 2, 3, 4, 5, 6, 7, 8, 9, 10], [10])])
def spec_l02Spoilt.B10 : List Nat := [0, 0, 3, 0, 8, 31, 0, 0, 128, 448, 1023, 2047]
theorem spec_l02Spoilt.tab10 : rtab .any (opsOf Try.f30 10) = spec_l02Spoilt.T10 := by kernel_rfl
theorem spec_l02Spoilt.bits10 : waitsOk spec_l02Spoilt.T10.2 spec_l02Spoilt.B10 = true := by kernel_rfl
set_option maxHeartbeats 8000000 in
set_option maxRecDepth 100000 in
theorem spec_l02Spoilt.calls (k : Nat) (g : Nat) (s0_0 : List Int) (s0_1 : Int) (s0_2 : Int) (a1 : ByteArray) (r1 : ByteArray) (r2 : Int) (r3 : Int) (w0 w : World) (hI : IsS71 w0 w g s0_0 s0_1 s0_2) (hB : Below w0.heap.size w0 w) (h : spec_l02Spoilt.f k s0_0 s0_1 s0_2 a1 = some (r1, r2, r3)) :
  Calls Try.prog 30 #[.pointer (some ⟨g, 0, none⟩), .string a1] w fun e w' => e = .returned (.string r1) ∧ IsS71 w0 w' g s0_0 r2 r3 ∧ Below w0.heap.size w0 w' ∧ KeepBut w w' g none := by
 have HI0 := aa_ hI
 have HK := aa_ (KeepBut.refl w g none)
 have HL := aa_ hB.size
 clear hI
 have HW0 := aa_ hB.size
 have HB := aa_ hB
 clear hB
 have H : ((spec_l01Below.f s0_0 s0_1 s0_2 12).bind fun bt394 => (if bt394.1 = 0 then ((spec_l01Text.f k s0_0 bt394.2.1 bt394.2.2 1).bind fun bt397 => (if a1.size + bt397.1.size ≤ 9223372036854775807 then (some (a1 ++ bt397.1, bt397.2.1, bt397.2.2)) else (none))) else (if bt394.1 = 1 then ((spec_l01Below.f s0_0 bt394.2.1 bt394.2.2 (wrap64 ((a1.size : Int) + 1))).bind fun bt400 => (if 0 ≤ bt400.1 then (if bt400.1 ≤ (a1.size : Int) then (some (a1.extract 0 (bt400.1 : Int).toNat, bt400.2.1, bt400.2.2)) else (none)) else (none))) else (if bt394.1 = 2 then (spec_l02Spoilt.j0 k a1 (bt394.1 == 2) s0_0 bt394.2.1 bt394.2.2) else (spec_l02Spoilt.j0 k a1 (bt394.1 == 3) s0_0 bt394.2.1 bt394.2.2))))) = some (r1, r2, r3) := h
 clear h
 obtain ⟨⟨t394, t395, t396⟩, A3, H⟩ := bindE_ H
 (try dsimp only at H)
 have HC4 := aa_ H
 clear H
 go_enter Try.func30, Try.ntmps30
 go_upto_if 8 with (first | ((with_reducible refine gC_ 25 rfl ?_); refine goesC_ (some 7) Try.func25 #[.pointer (some ⟨g, 0, none⟩), .int .i64 12] ?_; (with_reducible refine (spec_l01Below.calls g s0_0 s0_1 s0_2 12 t394 t395 t396 w0 _ ?side1 ?side2 A3.out).mono ?_); (case side1 => exact IsS71.nw_); (case side2 => exact IsS71.bw_); rintro e w5 ⟨rfl, hi, hb, hk⟩; refine ⟨_, rfl, ?_⟩; replace HK := aa_ (KeepBut.trans (by exact kp_) hk (.inl rfl)); replace HB := aa_ (hb); replace HI0 := aa_ (hi); (try clear hb hk hi)))
 (try simp only [Act.put, List.setIfInBounds_toArray, List.set_cons_zero, List.set_cons_succ])
 have H := HC4.out
 clear HC4
 by_cases c6 : t394 = 0
 ·rw [if_pos c6] at H
  have c6b0 : (t394 == 0) = true := beq_iff_eq.mpr c6
  have c6b1 : (t394 != 0) = false := bne_eq_false_iff_eq.mpr c6
  clear c6
  (first | rw [c6b0] | (simp only [i64_w, i32_w]; rw [c6b0]) | skip)
  obtain ⟨⟨t397, t398, t399⟩, A7, H⟩ := bindE_ H
  (try dsimp only at H)
  obtain ⟨c8, H⟩ := ifn_ H
  have c8b0 := eq_true c8
  have c8b1 : decide (a1.size + t397.size ≤ 9223372036854775807) = true := decide_eq_true c8
  try have c8b2 : (9223372036854775807 < a1.size + t397.size) = False := eq_false (Nat.not_lt.2 c8)
  simp only [Option.some.injEq, Prod.mk.injEq] at H
  obtain ⟨rfl, rfl, rfl⟩ := H
  go_wp2_with (first | ((with_reducible refine gC_ 52 rfl ?_); refine goesC_ (some 12) Try.func52 #[.pointer (some ⟨g, 0, none⟩), .int .i64 1] ?_; (with_reducible refine (spec_l01Text.calls k g s0_0 t395 t396 1 t397 t398 t399 w0 _ ?side1 ?side2 A7.out).mono ?_); (case side1 => exact IsS71.nw_); (case side2 => exact IsS71.bw_); rintro e w9 ⟨rfl, hi, hb, hk⟩; refine ⟨_, rfl, ?_⟩; replace HK := aa_ (KeepBut.trans (by exact kp_) hk (.inl rfl)); replace HB := aa_ (hb); replace HI0 := aa_ (hi); (try clear hb hk hi)))
  go_ret
  exact ⟨eq_, by exact IsS71.nw_, by exact IsS71.bw_, by exact kp_⟩
 ·rw [if_neg c6] at H
  have c6b0 : (t394 == 0) = false := beq_eq_false_iff_ne.mpr c6
  have c6b1 : (t394 != 0) = true := bne_iff_ne.mpr c6
  (first | rw [c6b0] | (simp only [i64_w, i32_w]; rw [c6b0]) | skip)
  by_cases c10 : t394 = 1
  ·rw [if_pos c10] at H
   have c10b0 : (t394 == 1) = true := beq_iff_eq.mpr c10
   have c10b1 : (t394 != 1) = false := bne_eq_false_iff_eq.mpr c10
   clear c10
   obtain ⟨⟨t400, t401, t402⟩, A11, H⟩ := bindE_ H
   (try dsimp only at H)
   obtain ⟨c12, H⟩ := ifn_ H
   have c12b0 := eq_true c12
   have c12b1 : decide (0 ≤ t400) = true := decide_eq_true c12
   clear c12
   obtain ⟨c13, H⟩ := ifn_ H
   have c13b0 := eq_true c13
   have c13b1 : decide (t400 ≤ (a1.size : Int)) = true := decide_eq_true c13
   clear c13
   simp only [Option.some.injEq, Prod.mk.injEq] at H
   obtain ⟨rfl, rfl, rfl⟩ := H
   go_wp2_with (first | ((with_reducible refine gC_ 25 rfl ?_); refine goesC_ (some 21) Try.func25 #[.pointer (some ⟨g, 0, none⟩), .int .i64 (wrap64 ((a1.size : Int) + 1))] ?_; (with_reducible refine (spec_l01Below.calls g s0_0 t395 t396 (wrap64 ((a1.size : Int) + 1)) t400 t401 t402 w0 _ ?side1 ?side2 A11.out).mono ?_); (case side1 => exact IsS71.nw_); (case side2 => exact IsS71.bw_); rintro e w14 ⟨rfl, hi, hb, hk⟩; refine ⟨_, rfl, ?_⟩; replace HK := aa_ (KeepBut.trans (by exact kp_) hk (.inl rfl)); replace HB := aa_ (hb); replace HI0 := aa_ (hi); (try clear hb hk hi)))
   go_ret
   exact ⟨eq_, by exact IsS71.nw_, by exact IsS71.bw_, by exact kp_⟩
  ·rw [if_neg c10] at H
   have c10b0 : (t394 == 1) = false := beq_eq_false_iff_ne.mpr c10
   have c10b1 : (t394 != 1) = true := bne_iff_ne.mpr c10
   have HC15 := aa_ H
   clear H
   go_upto_if 23 with (fail)
   go_cut [23] (fun v23 wc => ∃ (kq : Nat) (x23_14 : Bool), v23 = .bool x23_14 ∧ Aside0 (spec_l02Spoilt.j0 kq a1 x23_14 s0_0 t395 t396 = some (r1, r2, r3)) ∧ Aside0 (kq ≤ k) ∧ Aside0 (IsS71 w0 wc g s0_0 t395 t396) ∧ Aside0 (KeepBut w wc g none) ∧ Aside0 (Below w0.heap.size w0 wc))
   case first =>
    have H := HC15.out
    clear HC15
    by_cases c16 : t394 = 2
    ·rw [if_pos c16] at H
     have c16b0 : (t394 == 2) = true := beq_iff_eq.mpr c16
     have c16b1 : (t394 != 2) = false := bne_eq_false_iff_eq.mpr c16
     clear c16
     (first | rw [c16b0] | (simp only [i64_w, i32_w]; rw [c16b0]) | skip)
     have H' := aa_ H
     clear H
     go_wp2
     go_meet
     case rel => exact ⟨_, ((t394 == 2)), rf_, H', ⟨by first | omega | exact Nat.le_refl _⟩, ⟨by exact IsS71.nw_⟩, ⟨by exact kp_⟩, ⟨by exact IsS71.bw_⟩⟩
    ·rw [if_neg c16] at H
     have c16b0 : (t394 == 2) = false := beq_eq_false_iff_ne.mpr c16
     have c16b1 : (t394 != 2) = true := bne_iff_ne.mpr c16
     (first | rw [c16b0] | (simp only [i64_w, i32_w]; rw [c16b0]) | skip)
     have H' := aa_ H
     clear H
     go_wp2
     go_meet
     case rel => exact ⟨_, ((t394 == 3)), rf_, H', ⟨by first | omega | exact Nat.le_refl _⟩, ⟨by exact IsS71.nw_⟩, ⟨by exact kp_⟩, ⟨by exact IsS71.bw_⟩⟩
   case rest =>
    clear HC15
    try clear c1
    try clear c2
    try clear p2
    try clear c3
    try clear c5
    try clear c6
    try clear c6b0
    try clear c6b1
    try clear p6
    try clear c8
    try clear c8b0
    try clear c8b1
    try clear c8b2
    try clear c10
    try clear c10b0
    try clear c10b1
    try clear c12
    try clear c12b0
    try clear c12b1
    try clear c13
    try clear c13b0
    try clear c13b1
    try clear c16
    try clear c16b0
    try clear c16b1
    obtain ⟨kq, x23_14, rfl, HA, HJ14, HI0, HK, HB⟩ := hcut
    cases kq with
    | zero => exact absurd HA.out (by simp [spec_l02Spoilt.j0])
    | succ kj14 =>
     have H := HA.out
     clear HA
     simp only [spec_l02Spoilt.j0] at H
     by_cases c17 : x23_14 = true
     ·subst c17
      replace H := ite_t_ H
      by_cases c18 : (a1.size : Int) > 0
      ·rw [if_pos c18] at H
       have c18b0 : decide (0 < (a1.size : Int)) = true := decide_eq_true c18
       have c18b1 : decide (0 < a1.size) = true := decide_eq_true (by omega)
       clear c18
       obtain ⟨⟨t403, t404, t405⟩, A19, H⟩ := bindE_ H
       (try dsimp only at H)
       obtain ⟨c20, H⟩ := ifn_ H
       have c20b0 := eq_true c20
       have c20b1 : decide (0 ≤ t403) = true := decide_eq_true c20
       clear c20
       obtain ⟨c21, H⟩ := ifn_ H
       have c21b0 := eq_true c21
       have c21b1 : decide (t403 ≤ (a1.size : Int)) = true := decide_eq_true c21
       clear c21
       obtain ⟨⟨t406, t407, t408⟩, A22, H⟩ := bindE_ H
       (try dsimp only at H)
       obtain ⟨c23, H⟩ := ifn_ H
       have c23b0 := eq_true c23
       have c23b1 : decide ((a1.extract 0 (t403 : Int).toNat).size + t406.size ≤ 9223372036854775807) = true := decide_eq_true c23
       try have c23b2 : (9223372036854775807 < (a1.extract 0 (t403 : Int).toNat).size + t406.size) = False := eq_false (Nat.not_lt.2 c23)
       (try (have c23b5 : (9223372036854775807 < t403.toNat + t406.size) = False := eq_false (by have h_ := c23; simp only [ByteArray.size_append, ByteArray.size_extract] at h_; have e0_ : t403.toNat ≤ a1.size := (by have h9_ : t403 ≤ (a1.size : Int) := od_; omega); omega)))
       obtain ⟨ji24, hji24⟩ : ∃ j_ : Int, (wrap64 (t403 + 1)) = j_ := ⟨_, rfl⟩
       replace H : (if 0 ≤ (ji24) then (if (ji24) ≤ (a1.size : Int) then (if ((a1.extract 0 (t403 : Int).toNat) ++ t406).size + (a1.extract ((ji24) : Int).toNat a1.size).size ≤ 9223372036854775807 then (some (((a1.extract 0 (t403 : Int).toNat) ++ t406) ++ (a1.extract ((ji24) : Int).toNat a1.size), t407, t408)) else (none)) else (none)) else (none)) = some (r1, r2, r3) := by first | (rw [hji24] at H; exact H) | (simp only [hji24] at H ⊢; exact H)
       (try rw [hji24] at A19)
       (try rw [hji24] at A22)
       have hji24w : (IntKind.i64.wrap (t403 + 1)) = ji24 := (i64_w _).trans hji24
       obtain ⟨c25, H⟩ := ifn_ H
       have c25b0 := eq_true c25
       have c25b1 : decide (0 ≤ (ji24)) = true := decide_eq_true c25
       clear c25
       obtain ⟨c26, H⟩ := ifn_ H
       have c26b0 := eq_true c26
       have c26b1 : decide ((ji24) ≤ (a1.size : Int)) = true := decide_eq_true c26
       clear c26
       obtain ⟨c27, H⟩ := ifn_ H
       have c27b0 := eq_true c27
       have c27b1 : decide (((a1.extract 0 (t403 : Int).toNat) ++ t406).size + (a1.extract ((ji24) : Int).toNat a1.size).size ≤ 9223372036854775807) = true := decide_eq_true c27
       try have c27b2 : (9223372036854775807 < ((a1.extract 0 (t403 : Int).toNat) ++ t406).size + (a1.extract ((ji24) : Int).toNat a1.size).size) = False := eq_false (Nat.not_lt.2 c27)
       (try (have c27b3 := c27b2; simp only [ByteArray.size_append] at c27b3)); (try (have c27b4 := c27b0; simp only [ByteArray.size_append] at c27b4))
       (try (have c27b5 : (9223372036854775807 < t403.toNat + t406.size + (a1.size - ji24.toNat)) = False := eq_false (by have h_ := c27; simp only [ByteArray.size_append, ByteArray.size_extract] at h_; have e0_ : t403.toNat ≤ a1.size := (by have h9_ : t403 ≤ (a1.size : Int) := od_; omega); omega)))
       simp only [Option.some.injEq, Prod.mk.injEq] at H
       obtain ⟨rfl, rfl, rfl⟩ := H
       try go_wp2_with (first | ((with_reducible refine gC_ 25 rfl ?_); refine goesC_ (some 32) Try.func25 #[.pointer (some ⟨g, 0, none⟩), .int .i64 (a1.size : Int)] ?_; (with_reducible refine (spec_l01Below.calls g s0_0 t395 t396 (a1.size : Int) t403 t404 t405 w0 _ ?side1 ?side2 A19.out).mono ?_); (case side1 => exact IsS71.nw_); (case side2 => exact IsS71.bw_); rintro e w28 ⟨rfl, hi, hb, hk⟩; refine ⟨_, rfl, ?_⟩; replace HK := aa_ (KeepBut.trans (by exact kp_) hk (.inl rfl)); replace HB := aa_ (hb); replace HI0 := aa_ (hi); (try clear hb hk hi)))
       replace HI0 := aa_ (IsS71.drew HI0.out)
       replace HK := aa_ (keep_drew HK.out)
       replace HB := aa_ (below_drew1 HB.out)
       refine start_ (n := 12) (S := fun w' => True) (ds := []) (ba_ 12 0) (by kernel_rfl) rfl rfl trivial (fun hHeld => ?_); refine with_tabW spec_l02Spoilt.tab10 spec_l02Spoilt.bits10 (fun HT_ HW_ => ?_)
       generalize w28.drew = w29 at HI0 HK HB hHeld ⊢
       refine pureZ_ (i := 0) (some 33) (ba_ 12 1) (ao_ HT_) ?_
       refine pureZ_ (i := 1) (some 34) (ba_ 12 3) (ao_ HT_) ?_
       refine pureZ_ (i := 2) (some 35) (ba_ 12 7) (ao_ HT_) ?_
       refine pureZ_ (i := 3) (some 36) (ba_ 12 15) (ao_ HT_) ?_
       refine pureZ_ (i := 6) (some 39) (ba_ 12 79) (ao_ HT_) ?_
       refine pureZ_ (i := 7) (some 40) (ba_ 12 207) (ao_ HT_) ?_
       refine pureZ_ (i := 8) (some 41) (ba_ 12 463) (ao_ HT_) ?_
       refine pureZ_ (i := 9) (some 42) (ba_ 12 975) (ao_ HT_) ?_
       refine one_ (i := 4) (N := some 37) (ba_ 12 991) rfl rfl (one_of HT_.out (by kernel_rfl)) (by decide) (fun K hK => ?_)
       refine goes_ Try.func52 (by kernel_rfl) rfl #[.pointer (some ⟨g, 0, none⟩), .int .i64 1] (by rfl) rfl rfl (by (try simp only [List.map_toArray, List.map_cons, List.map_nil]); first | done | rfl | (simp only [List.length_drop, List.length_take]; rfl)) ?_
       with_reducible refine (spec_l01Text.calls kj14 g s0_0 t404 t405 1 t406 t407 t408 w0 _ ?side1 ?side2 A22.out).mono ?_
       (case side1 => exact IsS71.nw_)
       (case side2 => exact IsS71.bw_)
       rintro e w30 ⟨rfl, hi, hb, hk⟩
       refine ⟨_, rfl, ?_⟩
       replace HK := aa_ (KeepBut.trans (by exact kp_) hk (.inl rfl))
       replace HB := aa_ (hb)
       replace HI0 := aa_ (hi)
       (try clear hb)
       (try clear hb2)
       (try clear hk)
       (try clear hi)
       refine hK.out _ _ trivial (fun hHeld => ?_)
       clear hK K
       refine norm_ (a' := ?_) ?_ ?_
       rotate_left
       ·show Act.put _ (some 37) _ = _
        simp only [Act.put, List.setIfInBounds_toArray, List.set_cons_zero, List.set_cons_succ, i64_w, i32_w]
        rfl
       refine pureZ_ (i := 5) (some 38) (ba_ 12 1023) (ao_ HT_) ?_
       refine pureZ_ (i := 10) (some 43) (ba_ 12 2047) (ao_ HT_) ?_
       refine pureZ_ (i := 11) (some 4) (ba_ 12 4095) (ao_ HT_) ?_
       refine done_ (done_of HT_.out (by kernel_rfl)) ?_
       try go_wp2
       go_ret
       exact ⟨by first | rfl | (simp [errW_none, errW_some] <;> rfl) | (simp only [← hji24]; first | rfl | (simp [errW_none, errW_some] <;> rfl)) | (simp [*, errW_none, errW_some] <;> rfl), by exact IsS71.nw_, by exact IsS71.bw_, by exact kp_⟩
      ·rw [if_neg c18] at H
       have c18b0 : decide (0 < (a1.size : Int)) = false := decide_eq_false c18
       have c18b1 : decide (0 < a1.size) = false := decide_eq_false (by omega)
       clear c18
       simp only [Option.some.injEq, Prod.mk.injEq] at H
       obtain ⟨rfl, rfl, rfl⟩ := H
       go_wp2
       go_ret
       exact ⟨eq_, by exact IsS71.nw_, by exact IsS71.bw_, by exact kp_⟩
     ·replace c17 := Bool.eq_false_iff.mpr c17
      subst c17
      replace H := ite_f_ H
      simp only [Option.some.injEq, Prod.mk.injEq] at H
      obtain ⟨rfl, rfl, rfl⟩ := H
      go_wp2
      go_ret
      exact ⟨eq_, by exact IsS71.nw_, by exact IsS71.bw_, by exact kp_⟩
def spec_DrawReadPolicy.f (k : Nat) (l0 : List Int) : Option (ByteArray) := (spec_l01New.f k l0).bind fun bt409 => ((spec_l21Any.f k bt409.1 bt409.2.1 bt409.2.2).bind fun bt413 => ((spec_PolicyText.f k bt413.1).bind fun t418 => ((spec_l01Once.f bt409.1 bt413.2.1 bt413.2.2 3).bind fun bt419 => (if bt419.1 = true then ((spec_l02Spoilt.f k bt409.1 bt419.2.1 bt419.2.2 t418).bind fun bt422 => (some bt422.1)) else (some t418)))))
set_option maxHeartbeats 8000000 in
set_option maxRecDepth 100000 in
theorem spec_DrawReadPolicy.calls (k : Nat) (A0 : Option Addr) (c0 : Nat) (l0 : List Int) (r : ByteArray) (w : World) (hr0 : Kd.C (Kd.int .u8) w A0 l0.length l0) (hc0 : l0.length ≤ c0) (h : spec_DrawReadPolicy.f k l0 = some r) :
  Calls Try.prog 9 #[.slice A0 l0.length c0] w fun e w' => e = .returned (.string r) ∧ Below w.heap.size w w' := by
 have HR0 := aa_ hr0
 have HC0 := aa_ hc0
 clear hr0 hc0
 have HB := aa_ (Below.refl w.heap.size w)
 have H : ((spec_l01New.f k l0).bind fun bt409 => ((spec_l21Any.f k bt409.1 bt409.2.1 bt409.2.2).bind fun bt413 => ((spec_PolicyText.f k bt413.1).bind fun t418 => ((spec_l01Once.f bt409.1 bt413.2.1 bt413.2.2 3).bind fun bt419 => (if bt419.1 = true then ((spec_l02Spoilt.f k bt409.1 bt419.2.1 bt419.2.2 t418).bind fun bt422 => (some bt422.1)) else (some t418)))))) = some r := h
 clear h
 obtain ⟨⟨t409, t410, t411⟩, A2, H⟩ := bindE_ H
 (try dsimp only at H)
 obtain ⟨⟨t413, t416, t417⟩, A3, H⟩ := bindE_ H
 (try dsimp only at H)
 obtain ⟨t418, A4, H⟩ := bindE_ H
 obtain ⟨⟨t419, t420, t421⟩, A5, H⟩ := bindE_ H
 (try dsimp only at H)
 have HC6 := aa_ H
 clear H
 go_enter Try.func9, Try.ntmps9
 go_upto_if 11 with (first | ((with_reducible refine gC_ 24 rfl ?_); refine goesC_ (some 6) Try.func24 #[.slice A0 l0.length c0] ?_; (with_reducible refine (spec_l01New.calls k _ _ l0 t409 t410 t411 w _ ?side1 ?side2 ?side3 A2.out).mono ?_); (case side1 => repeat (first | (with_reducible first | exact HB.out | apply below_alloc | apply pw_below_drewN | apply below_drew1) | exact HB.out)); (case side2 => exact HR0.out); (case side3 => exact HC0.out); rintro e w7 ⟨g412, rfl, hi, hb, hb2⟩; refine ⟨_, rfl, ?_⟩; replace HB := aa_ (hb); have HI412 := aa_ (hi); (try clear hb hb2 hi)) | ((with_reducible refine gC_ 26 rfl ?_); refine goesC_ (some 8) Try.func26 #[.pointer (some ⟨g412, 0, none⟩)] ?_; (with_reducible refine (spec_l21Any.calls k g412 t409 t410 t411 t413 t416 t417 w _ ?side1 ?side2 A3.out).mono ?_); (case side1 => exact IsS71.nw_); (case side2 => repeat (first | (with_reducible first | exact HB.out | apply below_alloc | apply pw_below_drewN | apply below_drew1 | refine below_set ?_ (IsS71.ge HI412.out)) | exact HB.out)); rintro e w8 ⟨v414, rfl, ho0, hi, hb, hk⟩; refine ⟨_, rfl, ?_⟩; have HO415 := aa_ (Kd.R_lower ho0 (below_size (by repeat (first | (with_reducible first | exact HB.out | apply below_alloc | apply pw_below_drewN | apply below_drew1 | refine below_set ?_ (IsS71.ge HI412.out)) | exact HB.out)))); replace HB := aa_ (hb); replace HI412 := aa_ (hi); (try clear hb hk hi ho0); obtain ⟨Ao9, co9, eo9⟩ := Kd.R_slice HO415.out; subst eo9) | ((with_reducible refine gC_ 22 rfl ?_); refine goesC_ (some 9) Try.func22 #[.agg #[.slice Ao9 t413.length co9]] ?_; (with_reducible refine (spec_PolicyText.calls k _ _ t413 t418 _ ?side1 ?side2 A4.out).mono ?_); (case side1 => repeat (first | exact (Kd.R_reads' HO415.out).2.2 | (with_reducible refine Kd.C_alloc ?_ _) | (with_reducible refine Kd.C_drewN ?_ _) | (with_reducible refine Kd.C_drew ?_))); (case side2 => exact (Kd.R_reads' HO415.out).2.1); rintro e w10 ⟨rfl, hb⟩; refine ⟨_, rfl, ?_⟩; replace HO415 := hob_ HO415 hb; replace HB := aa_ (below_step (by repeat (first | (with_reducible first | exact HB.out | apply below_alloc | apply pw_below_drewN | apply below_drew1 | refine below_set ?_ (IsS71.ge HI412.out)) | exact HB.out)) hb); replace HI412 := aa_ (IsS71.below (by exact IsS71.nw_) hb); clear hb) | ((with_reducible refine gC_ 28 rfl ?_); refine goesC_ (some 11) Try.func28 #[.pointer (some ⟨g412, 0, none⟩), .int .i64 3] ?_; (with_reducible refine (spec_l01Once.calls g412 t409 t416 t417 3 t419 t420 t421 w _ ?side1 ?side2 A5.out).mono ?_); (case side1 => exact IsS71.nw_); (case side2 => repeat (first | (with_reducible first | exact HB.out | apply below_alloc | apply pw_below_drewN | apply below_drew1 | refine below_set ?_ (IsS71.ge HI412.out)) | exact HB.out)); rintro e w11 ⟨rfl, hi, hb, hk⟩; refine ⟨_, rfl, ?_⟩; replace HO415 := aa_ (Kd.R_mono (Kd.R_keep (IsS71.apart (show IsS71 w _ g412 t409 t416 t417 from by exact IsS71.nw_) (rr_ HO415) (by decide)) hk (fun _ h => h.2)) (fun _ h => h.1)); replace HB := aa_ (hb); replace HI412 := aa_ (hi); (try clear hb hk hi)))
 (try simp only [Act.put, List.setIfInBounds_toArray, List.set_cons_zero, List.set_cons_succ])
 have H := HC6.out
 clear HC6
 by_cases c12 : t419 = true
 ·subst c12
  replace H := ite_t_ H
  obtain ⟨⟨t422, t423, t424⟩, A13, H⟩ := bindE_ H
  (try dsimp only at H)
  obtain rfl := Option.some.inj H
  go_wp2_with (first | ((with_reducible refine gC_ 30 rfl ?_); refine goesC_ (some 14) Try.func30 #[.pointer (some ⟨g412, 0, none⟩), .string t418] ?_; (with_reducible refine (spec_l02Spoilt.calls k g412 t409 t420 t421 t418 t422 t423 t424 w _ ?side1 ?side2 A13.out).mono ?_); (case side1 => exact IsS71.nw_); (case side2 => repeat (first | (with_reducible first | exact HB.out | apply below_alloc | apply pw_below_drewN | apply below_drew1 | refine below_set ?_ (IsS71.ge HI412.out)) | exact HB.out)); rintro e w14 ⟨rfl, hi, hb, hk⟩; refine ⟨_, rfl, ?_⟩; replace HO415 := aa_ (Kd.R_mono (Kd.R_keep (IsS71.apart (show IsS71 w _ g412 t409 t420 t421 from by exact IsS71.nw_) (rr_ HO415) (by decide)) hk (fun _ h => h.2)) (fun _ h => h.1)); replace HB := aa_ (hb); replace HI412 := aa_ (hi); (try clear hb hk hi)))
  go_ret
  exact ⟨eq_, by repeat (first | (with_reducible first | exact HB.out | apply below_alloc | apply pw_below_drewN | apply below_drew1 | refine below_set ?_ (IsS71.ge HI412.out)) | exact HB.out)⟩
 ·replace c12 := Bool.eq_false_iff.mpr c12
  subst c12
  replace H := ite_f_ H
  obtain rfl := Option.some.inj H
  go_wp2
  go_ret
  exact ⟨eq_, by repeat (first | (with_reducible first | exact HB.out | apply below_alloc | apply pw_below_drewN | apply below_drew1 | refine below_set ?_ (IsS71.ge HI412.out)) | exact HB.out)⟩
def impl_in.f (a0 : Int) (a1 : Int) (a2 : Int) : Option (Bool) := if a0 ≥ a1 then (some (decide (a0 ≤ a2))) else (some false)
set_option maxHeartbeats 8000000 in
set_option maxRecDepth 100000 in
theorem impl_in.calls (a0 : Int) (a1 : Int) (a2 : Int) (r : Bool) (w : World) (h : impl_in.f a0 a1 a2 = some r) :
  Calls Try.prog 38 #[.int .i64 a0, .int .i64 a1, .int .i64 a2] w fun e w' => e = .returned (.bool r) ∧ Drawn0 w w' := by
 have H : (if a0 ≥ a1 then (some (decide (a0 ≤ a2))) else (some false)) = some r := h
 clear h
 by_cases c4 : a0 ≥ a1
 ·rw [if_pos c4] at H
  have c4b0 : decide (a1 ≤ a0) = true := decide_eq_true c4
  clear c4
  obtain rfl := Option.some.inj H
  go_enter Try.func38, Try.ntmps38
  go_wp2
  go_ret
  exact ⟨by first | rfl | (simp; done) | (simp [*]; done), by repeat (first | exact Drawn0.refl _ | apply Drawn0.step)⟩
 ·rw [if_neg c4] at H
  have c4b0 : decide (a1 ≤ a0) = false := decide_eq_false c4
  clear c4
  obtain rfl := Option.some.inj H
  go_enter Try.func38, Try.ntmps38
  go_wp2
  go_ret
  exact ⟨by first | rfl | (simp; done) | (simp [*]; done), by repeat (first | exact Drawn0.refl _ | apply Drawn0.step)⟩
def impl_RoleOk.f (a0_0 : Int) (a0_1 : Int) : Option (Bool) := (impl_in.f a0_0 0 5).bind fun t426 => (if t426 = true then ((impl_in.f a0_1 0 3).bind fun t427 => (some t427)) else (some false))
set_option maxHeartbeats 8000000 in
set_option maxRecDepth 100000 in
theorem impl_RoleOk.calls (a0_0 : Int) (a0_1 : Int) (r : Bool) (w : World) (h : impl_RoleOk.f a0_0 a0_1 = some r) :
  Calls Try.prog 39 #[.agg #[.int .i64 a0_0, .int .i64 a0_1]] w fun e w' => e = .returned (.bool r) ∧ Below w.heap.size w w' := by
 have hu55 := Try.underlying55
 have HB := aa_ (Below.refl w.heap.size w)
 have H : ((impl_in.f a0_0 0 5).bind fun t426 => (if t426 = true then ((impl_in.f a0_1 0 3).bind fun t427 => (some t427)) else (some false))) = some r := h
 clear h
 obtain ⟨t426, A2, H⟩ := bindE_ H
 by_cases c3 : t426 = true
 ·subst c3
  replace H := ite_t_ H
  obtain ⟨t427, A4, H⟩ := bindE_ H
  obtain rfl := Option.some.inj H
  go_enter Try.func39, Try.ntmps39
  go_wp2_with (first | ((with_reducible refine gD_ 1 rfl ?_); refine bx_ (N := 1) (cs := #[.int .i64 a0_0, .int .i64 a0_1]) (t := 55) ?_; intro gb425 hg w5 hbox hb; have BK425 := aa_ (hbox); have GW425 := gs_ hg; have GE425 := gs_ hg; replace HB := hbs_ hb; clear hb hbox hg; obtain ⟨hcz6, hfz6⟩ := bcf_ BK425) | ((with_reducible refine gC_ 38 rfl ?_); refine goesC_ (some 5) Try.func38 #[.int .i64 a0_0, .int .i64 0, .int .i64 5] ?_; (with_reducible refine (impl_in.calls a0_0 0 5 true _ A2.out).mono ?_); rintro e w' ⟨rfl, ⟨nd, rfl⟩⟩; refine ⟨_, rfl, ?_⟩) | (go_at_call 38; (with_reducible refine (impl_in.calls a0_1 0 3 t427 _ A4.out).mono ?_); rintro e w' ⟨rfl, ⟨nd, rfl⟩⟩))
  go_ret
  exact ⟨eq_, bl_⟩
 ·replace c3 := Bool.eq_false_iff.mpr c3
  subst c3
  replace H := ite_f_ H
  obtain rfl := Option.some.inj H
  go_enter Try.func39, Try.ntmps39
  go_wp2_with (first | ((with_reducible refine gD_ 1 rfl ?_); refine bx_ (N := 1) (cs := #[.int .i64 a0_0, .int .i64 a0_1]) (t := 55) ?_; intro gb425 hg w7 hbox hb; have BK425 := aa_ (hbox); have GW425 := gs_ hg; have GE425 := gs_ hg; replace HB := hbs_ hb; clear hb hbox hg; obtain ⟨hcz8, hfz8⟩ := bcf_ BK425) | ((with_reducible refine gC_ 38 rfl ?_); refine goesC_ (some 5) Try.func38 #[.int .i64 a0_0, .int .i64 0, .int .i64 5] ?_; (with_reducible refine (impl_in.calls a0_0 0 5 false _ A2.out).mono ?_); rintro e w' ⟨rfl, ⟨nd, rfl⟩⟩; refine ⟨_, rfl, ?_⟩))
  go_ret
  exact ⟨eq_, bl_⟩
mutual
def impl_PolicyOk.l0 : Nat → List (S57) → Int → Int → Option (Bool)
 | 0, _, _, _ => none
 | k + 1, x13, x14, x15 => if x15 < x14 then (if 0 ≤ x15 then (if x15 < (x13.length : Int) then (if ((rd_T57 x13 x15).f0) = 1 then ((impl_RoleOk.f ((rd_T57 x13 x15).f1.f0) ((rd_T57 x13 x15).f1.f1)).bind fun t433 => (if t433 = true then (if ((rd_T57 x13 x15).f2) = 0 then (if (((rd_T57 x13 x15).f3) = 0) then (impl_PolicyOk.l0 k x13 x14 (wrap64 (x15 + 1))) else (some false)) else (some false)) else (some false))) else (if ((rd_T57 x13 x15).f0) = 2 then (impl_PolicyOk.j1 k x15 false x13 x14 x15 ((rd_T57 x13 x15).f0) (((rd_T57 x13 x15).f0) == 2) ((rd_T57 x13 x15).f0) ((rd_T57 x13 x15).f1.f0) ((rd_T57 x13 x15).f1.f1) ((rd_T57 x13 x15).f2) ((rd_T57 x13 x15).f3) 0 0) else (impl_PolicyOk.j1 k x15 false x13 x14 x15 ((rd_T57 x13 x15).f0) (((rd_T57 x13 x15).f0) == 3) ((rd_T57 x13 x15).f0) ((rd_T57 x13 x15).f1.f0) ((rd_T57 x13 x15).f1.f1) ((rd_T57 x13 x15).f2) ((rd_T57 x13 x15).f3) 0 0))) else (none)) else (none)) else (some true)
def impl_PolicyOk.j1 : Nat → Int → Bool → List (S57) → Int → Int → Int → Bool → Int → Int → Int → Int → Int → Int → Int → Option (Bool)
 | 0, _, _, _, _, _, _, _, _, _, _, _, _, _, _ => none
 | k + 1, x3, x6, x13, x14, x15, x22, x38, x432000, x432001, x432002, x432003, x432004, x433000, x433001 => if x38 = true then (if (x432001 == x433000 && (x432002 == x433001)) = true then ((impl_in.f x432003 0 (wrap64 (x3 - 1))).bind fun t434 => (if t434 = true then ((impl_in.f x432004 0 (wrap64 (x3 - 1))).bind fun t435 => (if t435 = true then (impl_PolicyOk.l0 k x13 x14 (wrap64 (x15 + 1))) else (some false))) else (some false))) else (some false)) else (if x22 = 4 then (if (x432001 == x433000 && (x432002 == x433001)) = true then ((impl_in.f x432003 0 (wrap64 (x3 - 1))).bind fun t436 => (if t436 = true then (if x432004 = 0 then (impl_PolicyOk.l0 k x13 x14 (wrap64 (x15 + 1))) else (some false)) else (some false))) else (some false)) else (if x6 = true then (impl_PolicyOk.l0 k x13 x14 (wrap64 (x15 + 1))) else (some false)))
end
def impl_PolicyOk.f (k : Nat) (l0_0 : List (S57)) : Option (Bool) := (impl_in.f (l0_0.length : Int) 1 40).bind fun t429 => (if t429 = true then (impl_PolicyOk.l0 k l0_0 (l0_0.length : Int) 0) else (some false))
set_option maxHeartbeats 8000000 in
set_option maxRecDepth 100000 in
theorem impl_PolicyOk.calls (k : Nat) (A0_0 : Option Addr) (c0_0 : Nat) (l0_0 : List (S57)) (r : Bool) (w : World) (hr0_0 : Kd.C k57 w A0_0 l0_0.length l0_0) (hc0_0 : l0_0.length ≤ c0_0) (h : impl_PolicyOk.f k l0_0 = some r) :
  Calls Try.prog 14 #[.agg #[.slice A0_0 l0_0.length c0_0]] w fun e w' => e = .returned (.bool r) ∧ Below w.heap.size w w' := by
 have hu27 := Try.underlying27
 have hu57 := Try.underlying57
 have hu55 := Try.underlying55
 have HR0_0 := aa_ hr0_0
 have HC0_0 := aa_ hc0_0
 clear hr0_0 hc0_0
 have HB := aa_ (Below.refl w.heap.size w)
 have H : ((impl_in.f (l0_0.length : Int) 1 40).bind fun t429 => (if t429 = true then (impl_PolicyOk.l0 k l0_0 (l0_0.length : Int) 0) else (some false))) = some r := h
 clear h
 obtain ⟨t429, A2, H⟩ := bindE_ H
 have HC3 := aa_ H
 clear H
 go_enter Try.func14, Try.ntmps14
 go_upto_if 11 with (first | ((with_reducible refine gD_ 1 rfl ?_); refine bx_ (N := 1) (cs := #[.slice A0_0 l0_0.length c0_0]) (t := 27) ?_; intro gb428 hg w4 hbox hb; have BK428 := aa_ (hbox); have GW428 := gs_ hg; have GE428 := gs_ hg; replace HB := hbs_ hb; clear hb hbox hg; obtain ⟨hcz5, hfz5⟩ := bcf_ BK428) | ((with_reducible refine gC_ 38 rfl ?_); refine goesC_ (some 10) Try.func38 #[.int .i64 (l0_0.length : Int), .int .i64 1, .int .i64 40] ?_; (with_reducible refine (impl_in.calls (l0_0.length : Int) 1 40 t429 _ A2.out).mono ?_); rintro e w' ⟨rfl, ⟨nd, rfl⟩⟩; refine ⟨_, rfl, ?_⟩))
 (try simp only [Act.put, List.setIfInBounds_toArray, List.set_cons_zero, List.set_cons_succ])
 have H := HC3.out
 clear HC3
 by_cases c6 : t429 = true
 ·subst c6
  replace H := ite_t_ H
  have H' := aa_ H
  clear H
  have hcz7 := blk_cell BK428.out
  have hfz7 := blk_frozen BK428.out
  go_wp2
  go_loopg [15] k (fun kq v15 w' => ∃ (x15_1 : Int), v15 = .int .i64 x15_1 ∧ Aside0 (impl_PolicyOk.l0 kq l0_0 (l0_0.length : Int) x15_1 = some r) ∧ Aside0 (kq ≤ k) ∧ Aside0 (w'.heap[gb428]? = some (.cells #[(.slice A0_0 l0_0.length c0_0)] 27 (0, 0))) ∧ Aside0 (Below w.heap.size w w'))
  case atStart => exact ⟨(0), rf_, H', ⟨Nat.le_refl _⟩, ⟨bk_ BK428⟩, ⟨bl_⟩⟩
  case round =>
   clear H'
   try clear c1
   try clear p2
   try clear c3
   try clear c6
   try clear hcz5
   try clear hcz7
   try clear hfz5
   try clear hfz7
   obtain ⟨x15_1, rfl, HA, HK1, BK428, HB⟩ := hrel
   cases gk with
   | zero => exact absurd HA.out (by simp [impl_PolicyOk.l0])
   | succ k1 =>
    have H := HA.out
    clear HA
    simp only [impl_PolicyOk.l0] at H
    by_cases c8 : x15_1 < (l0_0.length : Int)
    ·rw [if_pos c8] at H
     have c8b0 : decide (x15_1 < (l0_0.length : Int)) = true := decide_eq_true c8
     clear c8
     (first | rw [c8b0] | (simp only [i64_w, i32_w]; rw [c8b0]) | (have cz_ := c8b0; simp only [Int.ofNat_lt, Int.ofNat_le, gt_iff_lt, ge_iff_le] at cz_; rw [cz_]; clear cz_) | skip)
     obtain ⟨c9b0, H⟩ := ifd_ H
     obtain ⟨c10b0, H⟩ := ifd_ H
     have HC11 := aa_ H
     clear H
     have p430 : 0 ≤ (x15_1 : Int) := od_
     have q430 : x15_1 < (l0_0.length : Int) := od_
     obtain ⟨ad430, e430, hx430_0, hx430_1, hx430_2, hx430_3, hx430_4⟩ := at_T57 (Kd.C_below HR0_0.out HB.out) x15_1 p430 q430
     cases e430
     replace p430 := eq_true p430
     replace q430 := eq_true q430
     go_upto_if 23 with (first | ((with_reducible refine gD_ 4 rfl ?_); refine bx_ (N := 4) (cs := #[.int .i64 0, .int .i64 0, .int .i64 0, .int .i64 0, .int .i64 0]) (t := 57) ?_; intro gb431 hg w12 hbox hb; have BK431 := aa_ (hbox); have GW431 := gs_ hg; have GE431 := gs_ hg; replace HB := hbs_ hb; have NB428_431 := nl_ hg BK428; have NB431_428 := nr_ hg BK428; replace BK428 := bkb_ BK428 hb; clear hb hbox hg; have hnb13 := NB431_428.out; have hnc13 := NB428_431.out; obtain ⟨hcz14, hfz14⟩ := bcf_ BK431) | ((with_reducible refine gD_ 5 rfl ?_); refine bx_ (N := 5) (cs := #[.int .i64 0, .int .i64 0]) (t := 55) ?_; intro gb432 hg w15 hbox hb; have BK432 := aa_ (hbox); have GW432 := gs_ hg; have GE432 := gs_ hg; replace HB := hbs_ hb; have NB428_432 := nl_ hg BK428; have NB432_428 := nr_ hg BK428; replace BK428 := aa_ (blk_below (g := gb428) (o := .cells #[.slice (some ad430) l0_0.length c0_0] 27 (0, 0)) (bk_ BK428) hb); have NB431_432 := nl_ hg BK431; have NB432_431 := nr_ hg BK431; replace BK431 := aa_ (blk_below (g := gb431) (o := .cells #[.int .i64 ((rd_T57 l0_0 x15_1).f0), .int .i64 ((rd_T57 l0_0 x15_1).f1.f0), .int .i64 ((rd_T57 l0_0 x15_1).f1.f1), .int .i64 ((rd_T57 l0_0 x15_1).f2), .int .i64 ((rd_T57 l0_0 x15_1).f3)] 57 (0, 0)) (bk_ BK431) hb); clear hb hbox hg; have hnb16 := NB432_428.out; have hnc16 := NB428_432.out; have hnb17 := NB432_431.out; have hnc17 := NB431_432.out; obtain ⟨hcz18, hfz18⟩ := bcf_ BK432; obtain ⟨hcz19, hfz19⟩ := bcf_ BK431))
     have n0_ : Aside0 (((w15.setCell ⟨gb432, 0, none⟩ (.int .i64 0)).setCell ⟨gb432, 1, none⟩ (.int .i64 0)).heap[gb428]? = some (.cells #[.slice (some ad430) l0_0.length c0_0] 27 (0, 0))) := ⟨bk_ BK428⟩
     have n1_ : Aside0 (((w15.setCell ⟨gb432, 0, none⟩ (.int .i64 0)).setCell ⟨gb432, 1, none⟩ (.int .i64 0)).heap[gb431]? = some (.cells #[.int .i64 ((rd_T57 l0_0 x15_1).f0), .int .i64 ((rd_T57 l0_0 x15_1).f1.f0), .int .i64 ((rd_T57 l0_0 x15_1).f1.f1), .int .i64 ((rd_T57 l0_0 x15_1).f2), .int .i64 ((rd_T57 l0_0 x15_1).f3)] 57 (0, 0))) := ⟨bk_ BK431⟩
     have n2_ : Aside0 (((w15.setCell ⟨gb432, 0, none⟩ (.int .i64 0)).setCell ⟨gb432, 1, none⟩ (.int .i64 0)).heap[gb432]? = some (.cells #[.int .i64 0, .int .i64 0] 55 (0, 0))) := ⟨bk_ BK432⟩
     have n3_ : Aside0 (Below w.heap.size w ((w15.setCell ⟨gb432, 0, none⟩ (.int .i64 0)).setCell ⟨gb432, 1, none⟩ (.int .i64 0))) := ⟨bl_⟩
     (try clear BK428)
     (try clear BK431)
     (try clear BK432)
     (try clear HB)
     generalize ((w15.setCell ⟨gb432, 0, none⟩ (.int .i64 0)).setCell ⟨gb432, 1, none⟩ (.int .i64 0)) = w20 at n0_ n1_ n2_ n3_ ⊢
     have BK428 := n0_
     have BK431 := n1_
     have BK432 := n2_
     have HB := n3_
     clear n0_ n1_ n2_ n3_
     (try simp only [Act.put, List.setIfInBounds_toArray, List.set_cons_zero, List.set_cons_succ])
     have H := HC11.out
     clear HC11
     by_cases c21 : ((rd_T57 l0_0 x15_1).f0) = 1
     ·rw [if_pos c21] at H
      have c21b0 : (((rd_T57 l0_0 x15_1).f0) == 1) = true := beq_iff_eq.mpr c21
      have c21b1 : (((rd_T57 l0_0 x15_1).f0) != 1) = false := bne_eq_false_iff_eq.mpr c21
      clear c21
      (first | rw [c21b0] | (simp only [i64_w, i32_w]; rw [c21b0]) | skip)
      obtain ⟨t433, A22, H⟩ := bindE_ H
      by_cases c23 : t433 = true
      ·subst c23
       replace H := ite_t_ H
       by_cases c24 : ((rd_T57 l0_0 x15_1).f2) = 0
       ·rw [if_pos c24] at H
        have c24b0 : (((rd_T57 l0_0 x15_1).f2) == 0) = true := beq_iff_eq.mpr c24
        have c24b1 : (((rd_T57 l0_0 x15_1).f2) != 0) = false := bne_eq_false_iff_eq.mpr c24
        clear c24
        have HC25 := aa_ H
        clear H
        have hnb26 := NB431_428.out
        have hnc26 := NB428_431.out
        have hnb27 := NB431_432.out
        have hnc27 := NB432_431.out
        have hcz28 := blk_cell BK431.out
        have hfz28 := blk_frozen BK431.out
        go_upto_if 78 with (first | ((with_reducible refine gC_ 39 rfl ?_); refine goesC_ (some 27) Try.func39 #[.agg #[.int .i64 ((rd_T57 l0_0 x15_1).f1.f0), .int .i64 ((rd_T57 l0_0 x15_1).f1.f1)]] ?_; (with_reducible refine (impl_RoleOk.calls ((rd_T57 l0_0 x15_1).f1.f0) ((rd_T57 l0_0 x15_1).f1.f1) true _ A22.out).mono ?_); rintro e w29 ⟨rfl, hb⟩; refine ⟨_, rfl, ?_⟩; replace BK428 := bkb_ BK428 hb; replace BK431 := bkb_ BK431 hb; replace BK432 := bkb_ BK432 hb; replace HB := hbs_ hb; clear hb; obtain ⟨hcz30, hfz30⟩ := bcf_ BK431))
        (try simp only [Act.put, List.setIfInBounds_toArray, List.set_cons_zero, List.set_cons_succ])
        have H := HC25.out
        clear HC25
        by_cases c31 : (((rd_T57 l0_0 x15_1).f3) = 0)
        ·rw [if_pos c31] at H
         have c31b0 : (((rd_T57 l0_0 x15_1).f3) == 0) = true := beq_iff_eq.mpr c31
         have c31b1 : (((rd_T57 l0_0 x15_1).f3) != 0) = false := bne_eq_false_iff_eq.mpr c31
         clear c31
         (first | rw [c31b0] | (simp only [i64_w, i32_w]; rw [c31b0]) | skip)
         have H' := aa_ H
         clear H
         go_wp2
         go_roundg k1
         case measure => have := HK1.out; omega
         case rel => exact ⟨(wrap64 (x15_1 + 1)), rf_, H', ⟨by have := HK1.out; omega⟩, ⟨bk_ BK428⟩, ⟨bl_⟩⟩
        ·rw [if_neg c31] at H
         have c31b0 : (((rd_T57 l0_0 x15_1).f3) == 0) = false := beq_eq_false_iff_ne.mpr c31
         have c31b1 : (((rd_T57 l0_0 x15_1).f3) != 0) = true := bne_iff_ne.mpr c31
         (first | rw [c31b0] | (simp only [i64_w, i32_w]; rw [c31b0]) | skip)
         obtain rfl := Option.some.inj H
         go_wp2
         go_ret
         exact ⟨eq_, bl_⟩
       ·rw [if_neg c24] at H
        have c24b0 : (((rd_T57 l0_0 x15_1).f2) == 0) = false := beq_eq_false_iff_ne.mpr c24
        have c24b1 : (((rd_T57 l0_0 x15_1).f2) != 0) = true := bne_iff_ne.mpr c24
        obtain rfl := Option.some.inj H
        have hnb32 := NB431_428.out
        have hnc32 := NB428_431.out
        have hnb33 := NB431_432.out
        have hnc33 := NB432_431.out
        have hcz34 := blk_cell BK431.out
        have hfz34 := blk_frozen BK431.out
        go_wp2_with (first | ((with_reducible refine gC_ 39 rfl ?_); refine goesC_ (some 27) Try.func39 #[.agg #[.int .i64 ((rd_T57 l0_0 x15_1).f1.f0), .int .i64 ((rd_T57 l0_0 x15_1).f1.f1)]] ?_; (with_reducible refine (impl_RoleOk.calls ((rd_T57 l0_0 x15_1).f1.f0) ((rd_T57 l0_0 x15_1).f1.f1) true _ A22.out).mono ?_); rintro e w35 ⟨rfl, hb⟩; refine ⟨_, rfl, ?_⟩; replace BK428 := bkb_ BK428 hb; replace BK431 := bkb_ BK431 hb; replace BK432 := bkb_ BK432 hb; replace HB := hbs_ hb; clear hb; obtain ⟨hcz36, hfz36⟩ := bcf_ BK431))
        go_ret
        exact ⟨eq_, bl_⟩
      ·replace c23 := Bool.eq_false_iff.mpr c23
       subst c23
       replace H := ite_f_ H
       obtain rfl := Option.some.inj H
       have hnb37 := NB431_428.out
       have hnc37 := NB428_431.out
       have hnb38 := NB431_432.out
       have hnc38 := NB432_431.out
       have hcz39 := blk_cell BK431.out
       have hfz39 := blk_frozen BK431.out
       go_wp2_with (first | ((with_reducible refine gC_ 39 rfl ?_); refine goesC_ (some 27) Try.func39 #[.agg #[.int .i64 ((rd_T57 l0_0 x15_1).f1.f0), .int .i64 ((rd_T57 l0_0 x15_1).f1.f1)]] ?_; (with_reducible refine (impl_RoleOk.calls ((rd_T57 l0_0 x15_1).f1.f0) ((rd_T57 l0_0 x15_1).f1.f1) false _ A22.out).mono ?_); rintro e w40 ⟨rfl, hb⟩; refine ⟨_, rfl, ?_⟩; replace BK428 := bkb_ BK428 hb; replace BK431 := bkb_ BK431 hb; replace BK432 := bkb_ BK432 hb; replace HB := hbs_ hb; clear hb))
       go_ret
       exact ⟨eq_, bl_⟩
     ·rw [if_neg c21] at H
      have c21b0 : (((rd_T57 l0_0 x15_1).f0) == 1) = false := beq_eq_false_iff_ne.mpr c21
      have c21b1 : (((rd_T57 l0_0 x15_1).f0) != 1) = true := bne_iff_ne.mpr c21
      (first | rw [c21b0] | (simp only [i64_w, i32_w]; rw [c21b0]) | skip)
      have HC41 := aa_ H
      clear H
      go_upto_if 38 with (fail)
      go_cut [38] (fun v38 wc => ∃ (kq : Nat) (x38_40 : Bool), v38 = .bool x38_40 ∧ Aside0 (impl_PolicyOk.j1 kq x15_1 false l0_0 (l0_0.length : Int) x15_1 ((rd_T57 l0_0 x15_1).f0) x38_40 ((rd_T57 l0_0 x15_1).f0) ((rd_T57 l0_0 x15_1).f1.f0) ((rd_T57 l0_0 x15_1).f1.f1) ((rd_T57 l0_0 x15_1).f2) ((rd_T57 l0_0 x15_1).f3) 0 0 = some r) ∧ Aside0 (kq ≤ k1) ∧ Aside0 (wc.heap[gb428]? = some (.cells #[(.slice (some ad430) l0_0.length c0_0)] 27 (0, 0))) ∧ Aside0 (wc.heap[gb431]? = some (.cells #[.int .i64 ((rd_T57 l0_0 x15_1).f0), .int .i64 ((rd_T57 l0_0 x15_1).f1.f0), .int .i64 ((rd_T57 l0_0 x15_1).f1.f1), .int .i64 ((rd_T57 l0_0 x15_1).f2), .int .i64 ((rd_T57 l0_0 x15_1).f3)] 57 (0, 0))) ∧ Aside0 (wc.heap[gb432]? = some (.cells #[.int .i64 0, .int .i64 0] 55 (0, 0))) ∧ Aside0 (Below w.heap.size w wc))
      case first =>
       have H := HC41.out
       clear HC41
       by_cases c42 : ((rd_T57 l0_0 x15_1).f0) = 2
       ·rw [if_pos c42] at H
        have c42b0 : (((rd_T57 l0_0 x15_1).f0) == 2) = true := beq_iff_eq.mpr c42
        have c42b1 : (((rd_T57 l0_0 x15_1).f0) != 2) = false := bne_eq_false_iff_eq.mpr c42
        clear c42
        (first | rw [c42b0] | (simp only [i64_w, i32_w]; rw [c42b0]) | skip)
        have H' := aa_ H
        clear H
        go_wp2
        go_meet
        case rel => exact ⟨_, ((((rd_T57 l0_0 x15_1).f0) == 2)), rf_, H', ⟨by have := HK1.out; first | omega | exact Nat.le_refl _⟩, ⟨bk_ BK428⟩, ⟨bk_ BK431⟩, ⟨bk_ BK432⟩, ⟨bl_⟩⟩
       ·rw [if_neg c42] at H
        have c42b0 : (((rd_T57 l0_0 x15_1).f0) == 2) = false := beq_eq_false_iff_ne.mpr c42
        have c42b1 : (((rd_T57 l0_0 x15_1).f0) != 2) = true := bne_iff_ne.mpr c42
        (first | rw [c42b0] | (simp only [i64_w, i32_w]; rw [c42b0]) | skip)
        have H' := aa_ H
        clear H
        go_wp2
        go_meet
        case rel => exact ⟨_, ((((rd_T57 l0_0 x15_1).f0) == 3)), rf_, H', ⟨by have := HK1.out; first | omega | exact Nat.le_refl _⟩, ⟨bk_ BK428⟩, ⟨bk_ BK431⟩, ⟨bk_ BK432⟩, ⟨bl_⟩⟩
      case rest =>
       clear HC41
       try clear c1
       try clear c2
       try clear p2
       try clear c3
       try clear c4
       try clear p4
       try clear q4
       try clear hx4
       try clear c6
       try clear p6
       try clear c8
       try clear c8b0
       try clear c9
       try clear c9b0
       try clear c10
       try clear c10b0
       try clear c13
       try clear c14
       try clear c16
       try clear c17
       try clear c21
       try clear c21b0
       try clear c21b1
       try clear c23
       try clear c24
       try clear c24b0
       try clear c24b1
       try clear c26
       try clear c27
       try clear c31
       try clear c31b0
       try clear c31b1
       try clear c32
       try clear c33
       try clear c37
       try clear c38
       try clear c39
       try clear c42
       try clear c42b0
       try clear c42b1
       try clear hcz14
       try clear hcz18
       try clear hcz19
       try clear hcz28
       try clear hcz30
       try clear hcz34
       try clear hcz36
       try clear hcz39
       try clear hcz5
       try clear hcz7
       try clear hfz14
       try clear hfz18
       try clear hfz19
       try clear hfz28
       try clear hfz30
       try clear hfz34
       try clear hfz36
       try clear hfz39
       try clear hfz5
       try clear hfz7
       try clear hx430_0
       try clear hx430_1
       try clear hx430_2
       try clear hx430_3
       try clear hx430_4
       try clear p2
       try clear p430
       try clear q430
       obtain ⟨kq, x38_40, rfl, HA, HJ40, BK428, BK431, BK432, HB⟩ := hcut
       cases kq with
       | zero => exact absurd HA.out (by simp [impl_PolicyOk.j1])
       | succ kj40 =>
        have H := HA.out
        clear HA
        simp only [impl_PolicyOk.j1] at H
        by_cases c43 : x38_40 = true
        ·subst c43
         replace H := ite_t_ H
         by_cases c44 : (((rd_T57 l0_0 x15_1).f1.f0) == 0 && (((rd_T57 l0_0 x15_1).f1.f1) == 0)) = true
         ·rw [if_pos c44] at H
          have c44b0 : (((rd_T57 l0_0 x15_1).f1.f0) == 0 && (((rd_T57 l0_0 x15_1).f1.f1) == 0)) = true := c44
          (try (have c44b1 : decide (((rd_T57 l0_0 x15_1).f1.f0) = 0 && (((rd_T57 l0_0 x15_1).f1.f1) == 0)) = true := by simpa using c44))
          (try (have c44b2 : (((rd_T57 l0_0 x15_1).f1.f0) == 0 && (((rd_T57 l0_0 x15_1).f1.f1) == 0)) = true := by simpa using c44))
          clear c44
          obtain ⟨t434, A45, H⟩ := bindE_ H
          by_cases c46 : t434 = true
          ·subst c46
           replace H := ite_t_ H
           obtain ⟨t435, A47, H⟩ := bindE_ H
           have HC48 := aa_ H
           clear H
           have hnb49 := NB431_428.out
           have hnc49 := NB428_431.out
           have hnb50 := NB431_432.out
           have hnc50 := NB432_431.out
           have hcz51 := blk_cell BK431.out
           have hfz51 := blk_frozen BK431.out
           have hnb52 := NB432_428.out
           have hnc52 := NB428_432.out
           have hcz53 := blk_cell BK432.out
           have hfz53 := blk_frozen BK432.out
           go_upto_if 78 with (first | (go_at_call 38; (with_reducible refine (impl_in.calls ((rd_T57 l0_0 x15_1).f2) 0 (wrap64 (x15_1 - 1)) true _ A45.out).mono ?_); rintro e w' ⟨rfl, ⟨nd, rfl⟩⟩) | (go_at_call 38; (with_reducible refine (impl_in.calls ((rd_T57 l0_0 x15_1).f3) 0 (wrap64 (x15_1 - 1)) t435 _ A47.out).mono ?_); rintro e w' ⟨rfl, ⟨nd, rfl⟩⟩))
           (try simp only [Act.put, List.setIfInBounds_toArray, List.set_cons_zero, List.set_cons_succ])
           have H := HC48.out
           clear HC48
           by_cases c54 : t435 = true
           ·subst c54
            replace H := ite_t_ H
            have H' := aa_ H
            clear H
            go_wp2
            go_roundg kj40
            case measure => have := HK1.out; have := HJ40.out; omega
            case rel => exact ⟨(wrap64 (x15_1 + 1)), rf_, H', ⟨by have := HK1.out; have := HJ40.out; omega⟩, ⟨bk_ BK428⟩, ⟨bl_⟩⟩
           ·replace c54 := Bool.eq_false_iff.mpr c54
            subst c54
            replace H := ite_f_ H
            obtain rfl := Option.some.inj H
            go_wp2
            go_ret
            exact ⟨eq_, bl_⟩
          ·replace c46 := Bool.eq_false_iff.mpr c46
           subst c46
           replace H := ite_f_ H
           obtain rfl := Option.some.inj H
           have hnb55 := NB431_428.out
           have hnc55 := NB428_431.out
           have hnb56 := NB431_432.out
           have hnc56 := NB432_431.out
           have hcz57 := blk_cell BK431.out
           have hfz57 := blk_frozen BK431.out
           have hnb58 := NB432_428.out
           have hnc58 := NB428_432.out
           have hcz59 := blk_cell BK432.out
           have hfz59 := blk_frozen BK432.out
           go_wp2_with (first | (go_at_call 38; (with_reducible refine (impl_in.calls ((rd_T57 l0_0 x15_1).f2) 0 (wrap64 (x15_1 - 1)) false _ A45.out).mono ?_); rintro e w' ⟨rfl, ⟨nd, rfl⟩⟩))
           go_ret
           exact ⟨eq_, bl_⟩
         ·rw [if_neg c44] at H
          have c44b0 : (((rd_T57 l0_0 x15_1).f1.f0) == 0 && (((rd_T57 l0_0 x15_1).f1.f1) == 0)) = false := by simpa using c44
          (try (have c44b1 : decide (((rd_T57 l0_0 x15_1).f1.f0) = 0 && (((rd_T57 l0_0 x15_1).f1.f1) == 0)) = false := by simpa using c44))
          (try (have c44b2 : (((rd_T57 l0_0 x15_1).f1.f0) == 0 && (((rd_T57 l0_0 x15_1).f1.f1) == 0)) = false := by simpa using c44))
          (try (have c44b3 : ¬ (((rd_T57 l0_0 x15_1).f1.f0) = 0 && (((rd_T57 l0_0 x15_1).f1.f1) == 0)) := by simpa using c44))
          clear c44
          obtain rfl := Option.some.inj H
          have hnb60 := NB431_428.out
          have hnc60 := NB428_431.out
          have hnb61 := NB431_432.out
          have hnc61 := NB432_431.out
          have hcz62 := blk_cell BK431.out
          have hfz62 := blk_frozen BK431.out
          have hnb63 := NB432_428.out
          have hnc63 := NB428_432.out
          have hcz64 := blk_cell BK432.out
          have hfz64 := blk_frozen BK432.out
          go_wp2
          go_ret
          exact ⟨eq_, bl_⟩
        ·replace c43 := Bool.eq_false_iff.mpr c43
         subst c43
         replace H := ite_f_ H
         by_cases c65 : ((rd_T57 l0_0 x15_1).f0) = 4
         ·rw [if_pos c65] at H
          have c65b0 : (((rd_T57 l0_0 x15_1).f0) == 4) = true := beq_iff_eq.mpr c65
          have c65b1 : (((rd_T57 l0_0 x15_1).f0) != 4) = false := bne_eq_false_iff_eq.mpr c65
          clear c65
          by_cases c66 : (((rd_T57 l0_0 x15_1).f1.f0) == 0 && (((rd_T57 l0_0 x15_1).f1.f1) == 0)) = true
          ·rw [if_pos c66] at H
           have c66b0 : (((rd_T57 l0_0 x15_1).f1.f0) == 0 && (((rd_T57 l0_0 x15_1).f1.f1) == 0)) = true := c66
           (try (have c66b1 : decide (((rd_T57 l0_0 x15_1).f1.f0) = 0 && (((rd_T57 l0_0 x15_1).f1.f1) == 0)) = true := by simpa using c66))
           (try (have c66b2 : (((rd_T57 l0_0 x15_1).f1.f0) == 0 && (((rd_T57 l0_0 x15_1).f1.f1) == 0)) = true := by simpa using c66))
           clear c66
           obtain ⟨t436, A67, H⟩ := bindE_ H
           by_cases c68 : t436 = true
           ·subst c68
            replace H := ite_t_ H
            have HC69 := aa_ H
            clear H
            have hnb70 := NB431_428.out
            have hnc70 := NB428_431.out
            have hnb71 := NB431_432.out
            have hnc71 := NB432_431.out
            have hcz72 := blk_cell BK431.out
            have hfz72 := blk_frozen BK431.out
            have hnb73 := NB432_428.out
            have hnc73 := NB428_432.out
            have hcz74 := blk_cell BK432.out
            have hfz74 := blk_frozen BK432.out
            go_upto_if 78 with (first | (go_at_call 38; (with_reducible refine (impl_in.calls ((rd_T57 l0_0 x15_1).f2) 0 (wrap64 (x15_1 - 1)) true _ A67.out).mono ?_); rintro e w' ⟨rfl, ⟨nd, rfl⟩⟩))
            (try simp only [Act.put, List.setIfInBounds_toArray, List.set_cons_zero, List.set_cons_succ])
            have H := HC69.out
            clear HC69
            by_cases c75 : ((rd_T57 l0_0 x15_1).f3) = 0
            ·rw [if_pos c75] at H
             have c75b0 : (((rd_T57 l0_0 x15_1).f3) == 0) = true := beq_iff_eq.mpr c75
             have c75b1 : (((rd_T57 l0_0 x15_1).f3) != 0) = false := bne_eq_false_iff_eq.mpr c75
             clear c75
             (first | rw [c75b0] | (simp only [i64_w, i32_w]; rw [c75b0]) | skip)
             have H' := aa_ H
             clear H
             go_wp2
             go_roundg kj40
             case measure => have := HK1.out; have := HJ40.out; omega
             case rel => exact ⟨(wrap64 (x15_1 + 1)), rf_, H', ⟨by have := HK1.out; have := HJ40.out; omega⟩, ⟨bk_ BK428⟩, ⟨bl_⟩⟩
            ·rw [if_neg c75] at H
             have c75b0 : (((rd_T57 l0_0 x15_1).f3) == 0) = false := beq_eq_false_iff_ne.mpr c75
             have c75b1 : (((rd_T57 l0_0 x15_1).f3) != 0) = true := bne_iff_ne.mpr c75
             (first | rw [c75b0] | (simp only [i64_w, i32_w]; rw [c75b0]) | skip)
             obtain rfl := Option.some.inj H
             go_wp2
             go_ret
             exact ⟨eq_, bl_⟩
           ·replace c68 := Bool.eq_false_iff.mpr c68
            subst c68
            replace H := ite_f_ H
            obtain rfl := Option.some.inj H
            have hnb76 := NB431_428.out
            have hnc76 := NB428_431.out
            have hnb77 := NB431_432.out
            have hnc77 := NB432_431.out
            have hcz78 := blk_cell BK431.out
            have hfz78 := blk_frozen BK431.out
            have hnb79 := NB432_428.out
            have hnc79 := NB428_432.out
            have hcz80 := blk_cell BK432.out
            have hfz80 := blk_frozen BK432.out
            go_wp2_with (first | (go_at_call 38; (with_reducible refine (impl_in.calls ((rd_T57 l0_0 x15_1).f2) 0 (wrap64 (x15_1 - 1)) false _ A67.out).mono ?_); rintro e w' ⟨rfl, ⟨nd, rfl⟩⟩))
            go_ret
            exact ⟨eq_, bl_⟩
          ·rw [if_neg c66] at H
           have c66b0 : (((rd_T57 l0_0 x15_1).f1.f0) == 0 && (((rd_T57 l0_0 x15_1).f1.f1) == 0)) = false := by simpa using c66
           (try (have c66b1 : decide (((rd_T57 l0_0 x15_1).f1.f0) = 0 && (((rd_T57 l0_0 x15_1).f1.f1) == 0)) = false := by simpa using c66))
           (try (have c66b2 : (((rd_T57 l0_0 x15_1).f1.f0) == 0 && (((rd_T57 l0_0 x15_1).f1.f1) == 0)) = false := by simpa using c66))
           (try (have c66b3 : ¬ (((rd_T57 l0_0 x15_1).f1.f0) = 0 && (((rd_T57 l0_0 x15_1).f1.f1) == 0)) := by simpa using c66))
           clear c66
           obtain rfl := Option.some.inj H
           have hnb81 := NB431_428.out
           have hnc81 := NB428_431.out
           have hnb82 := NB431_432.out
           have hnc82 := NB432_431.out
           have hcz83 := blk_cell BK431.out
           have hfz83 := blk_frozen BK431.out
           have hnb84 := NB432_428.out
           have hnc84 := NB428_432.out
           have hcz85 := blk_cell BK432.out
           have hfz85 := blk_frozen BK432.out
           go_wp2
           go_ret
           exact ⟨eq_, bl_⟩
         ·rw [if_neg c65] at H
          have c65b0 : (((rd_T57 l0_0 x15_1).f0) == 4) = false := beq_eq_false_iff_ne.mpr c65
          have c65b1 : (((rd_T57 l0_0 x15_1).f0) != 4) = true := bne_iff_ne.mpr c65
          replace H := ite_f_ H
          obtain rfl := Option.some.inj H
          go_wp2
          go_ret
          exact ⟨eq_, bl_⟩
    ·rw [if_neg c8] at H
     have c8b0 : decide (x15_1 < (l0_0.length : Int)) = false := decide_eq_false c8
     clear c8
     (first | rw [c8b0] | (simp only [i64_w, i32_w]; rw [c8b0]) | (have cz_ := c8b0; simp only [Int.ofNat_lt, Int.ofNat_le, gt_iff_lt, ge_iff_le] at cz_; rw [cz_]; clear cz_) | skip)
     obtain rfl := Option.some.inj H
     go_wp2
     go_ret
     exact ⟨eq_, bl_⟩
 ·replace c6 := Bool.eq_false_iff.mpr c6
  subst c6
  replace H := ite_f_ H
  obtain rfl := Option.some.inj H
  go_wp2
  go_ret
  exact ⟨eq_, bl_⟩
end Go.Proofs.Ytnoklfpnmopkpaa.PE
