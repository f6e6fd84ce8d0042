import Derived.Test.YtcgnegnljffkmaaKFnExactReadPolicyPAx0
import Derived.Test.YtcgnegnljffkmaaKFnExactReadPolicyPAx3
import Derived.Test.YtcgnegnljffkmaaKFnExactReadPolicyPAx4
import Derived.Test.YtcgnegnljffkmaaKFnExactReadPolicyPAx5
import Derived.Test.YtcgnegnljffkmaaKFnExactReadPolicyPAx6
-- A text of this claim: written by the session's own program out of the translation (wip/tools). Lean checks it.
namespace Go.Proofs.Ytcgnegnljffkmaa.PA
open Go.RowKit Go.Proofs.YtcgnegnljffkmaaW.PrintWords Go.Proofs.YtcgnegnljffkmaaW.PrintLast Go.Proofs.YtcgnegnljffkmaaW.PrintMore
attribute [local go_sem] max2_int min2_int max_two min_two max_three min_three max_four min_four   -- for this text's walks alone
set_option linter.unusedVariables false
set_option linter.unusedSimpArgs false
def laws_eqPolicy.f (k : Nat) (l0_0 : List (S105)) (l1_0 : List (S105)) : Option (Bool) := (laws_eqPolNodeS.f k l0_0 l1_0).bind fun t256 => (if t256 = true then (some true) else (some false))
set_option maxHeartbeats 8000000 in
set_option maxRecDepth 100000 in
theorem laws_eqPolicy.calls (k : Nat) (A0_0 : Option Addr) (c0_0 : Nat) (l0_0 : List (S105)) (A1_0 : Option Addr) (c1_0 : Nat) (l1_0 : List (S105)) (r : Bool) (w : World) (hr0_0 : Kd.C k105 w A0_0 l0_0.length l0_0) (hc0_0 : l0_0.length ≤ c0_0) (hr1_0 : Kd.C k105 w A1_0 l1_0.length l1_0) (hc1_0 : l1_0.length ≤ c1_0) (h : laws_eqPolicy.f k l0_0 l1_0 = some r) :
  Calls Try.prog 22 #[.agg #[.slice A0_0 l0_0.length c0_0], .agg #[.slice A1_0 l1_0.length c1_0]] w fun e w' => e = .returned (.bool r) ∧ Below w.heap.size w w' := by
 have hu39 := Try.underlying39
 have HR0_0 := Aside0.mk hr0_0
 have HC0_0 := Aside0.mk hc0_0
 clear hr0_0 hc0_0
 have HR1_0 := Aside0.mk hr1_0
 have HC1_0 := Aside0.mk hc1_0
 clear hr1_0 hc1_0
 have HB := Aside0.mk (Below.refl w.heap.size w)
 have H : ((laws_eqPolNodeS.f k l0_0 l1_0).bind fun t256 => (if t256 = true then (some true) else (some false))) = some r := h
 clear h
 obtain ⟨t256, A3, H⟩ := bindE_ H
 by_cases c4 : t256 = true
 ·subst c4
  replace H := ite_t_ H
  obtain rfl := Option.some.inj H
  go_enter Try.func22, Try.ntmps22
  go_wp2_with (first | ((with_reducible refine gate_dst (N := 2) rfl ?_); refine box_event ?hg (N := 2) ?hd (cs := #[.slice A0_0 l0_0.length c0_0]) (t := 39) ?hr ?_; (case hd => rfl); (case hg => rfl); (case hr => first | (go_simp; done) | (go_simp; rfl)); intro gb254 hg w5 hbox hb; have BK254 := Aside0.mk (hbox); have GW254 := gs_ hg; have GE254 := gs_ hg; replace HB := hbs_ hb; clear hb hbox hg) | ((with_reducible refine gate_dst (N := 3) rfl ?_); refine box_event ?hg (N := 3) ?hd (cs := #[.slice A1_0 l1_0.length c1_0]) (t := 39) ?hr ?_; (case hd => rfl); (case hg => rfl); (case hr => first | (go_simp; done) | (go_simp; rfl)); intro gb255 hg w6 hbox hb; have BK255 := Aside0.mk (hbox); have GW255 := gs_ hg; have GE255 := gs_ hg; replace HB := hbs_ hb; have NB254_255 := Aside0.mk ((by rw [hg]; exact Nat.ne_of_lt (blk_lt (g := gb254) (o := .cells #[.slice A0_0 l0_0.length c0_0] 39 (0, 0)) (bk_ BK254)) : gb254 ≠ gb255)); have NB255_254 := Aside0.mk ((by rw [hg]; exact Nat.ne_of_gt (blk_lt (g := gb254) (o := .cells #[.slice A0_0 l0_0.length c0_0] 39 (0, 0)) (bk_ BK254)) : gb255 ≠ gb254)); replace BK254 := bkb_ BK254 hb; clear hb hbox hg; have hnb7 := NB254_255.out; have hnc7 := NB255_254.out; have hcz8 := blk_cell BK254.out; have hfz8 := blk_frozen BK254.out; have hcz9 := blk_cell BK255.out; have hfz9 := blk_frozen BK255.out) | ((with_reducible refine gate_callee (f := 81) rfl ?_); refine goesC_ (some 9) Try.func81 #[.slice A0_0 l0_0.length c0_0, .slice A1_0 l1_0.length c1_0] ?_; (with_reducible refine (laws_eqPolNodeS.calls k _ _ l0_0 _ _ l1_0 true _ ?side1 ?side2 ?side3 ?side4 A3.out).mono ?_); (case side1 => repeat (first | exact (Kd.C_below HR0_0.out HB.out) | (with_reducible refine Kd.C_alloc ?_ _) | (with_reducible refine Kd.C_drewN ?_ _) | (with_reducible refine Kd.C_drew ?_))); (case side2 => exact HC0_0.out); (case side3 => repeat (first | exact (Kd.C_below HR1_0.out HB.out) | (with_reducible refine Kd.C_alloc ?_ _) | (with_reducible refine Kd.C_drewN ?_ _) | (with_reducible refine Kd.C_drew ?_))); (case side4 => exact HC1_0.out); rintro e w10 ⟨rfl, hb⟩; refine ⟨_, rfl, ?_⟩; replace BK254 := bkb_ BK254 hb; replace BK255 := bkb_ BK255 hb; replace HB := hbs_ hb; clear hb))
  go_ret
  exact ⟨eq_, bl_⟩
 ·replace c4 := Bool.eq_false_iff.mpr c4
  subst c4
  replace H := ite_f_ H
  obtain rfl := Option.some.inj H
  go_enter Try.func22, Try.ntmps22
  go_wp2_with (first | ((with_reducible refine gate_dst (N := 2) rfl ?_); refine box_event ?hg (N := 2) ?hd (cs := #[.slice A0_0 l0_0.length c0_0]) (t := 39) ?hr ?_; (case hd => rfl); (case hg => rfl); (case hr => first | (go_simp; done) | (go_simp; rfl)); intro gb254 hg w11 hbox hb; have BK254 := Aside0.mk (hbox); have GW254 := gs_ hg; have GE254 := gs_ hg; replace HB := hbs_ hb; clear hb hbox hg) | ((with_reducible refine gate_dst (N := 3) rfl ?_); refine box_event ?hg (N := 3) ?hd (cs := #[.slice A1_0 l1_0.length c1_0]) (t := 39) ?hr ?_; (case hd => rfl); (case hg => rfl); (case hr => first | (go_simp; done) | (go_simp; rfl)); intro gb255 hg w12 hbox hb; have BK255 := Aside0.mk (hbox); have GW255 := gs_ hg; have GE255 := gs_ hg; replace HB := hbs_ hb; have NB254_255 := Aside0.mk ((by rw [hg]; exact Nat.ne_of_lt (blk_lt (g := gb254) (o := .cells #[.slice A0_0 l0_0.length c0_0] 39 (0, 0)) (bk_ BK254)) : gb254 ≠ gb255)); have NB255_254 := Aside0.mk ((by rw [hg]; exact Nat.ne_of_gt (blk_lt (g := gb254) (o := .cells #[.slice A0_0 l0_0.length c0_0] 39 (0, 0)) (bk_ BK254)) : gb255 ≠ gb254)); replace BK254 := bkb_ BK254 hb; clear hb hbox hg; have hnb13 := NB254_255.out; have hnc13 := NB255_254.out; have hcz14 := blk_cell BK254.out; have hfz14 := blk_frozen BK254.out; have hcz15 := blk_cell BK255.out; have hfz15 := blk_frozen BK255.out) | ((with_reducible refine gate_callee (f := 81) rfl ?_); refine goesC_ (some 9) Try.func81 #[.slice A0_0 l0_0.length c0_0, .slice A1_0 l1_0.length c1_0] ?_; (with_reducible refine (laws_eqPolNodeS.calls k _ _ l0_0 _ _ l1_0 false _ ?side1 ?side2 ?side3 ?side4 A3.out).mono ?_); (case side1 => repeat (first | exact (Kd.C_below HR0_0.out HB.out) | (with_reducible refine Kd.C_alloc ?_ _) | (with_reducible refine Kd.C_drewN ?_ _) | (with_reducible refine Kd.C_drew ?_))); (case side2 => exact HC0_0.out); (case side3 => repeat (first | exact (Kd.C_below HR1_0.out HB.out) | (with_reducible refine Kd.C_alloc ?_ _) | (with_reducible refine Kd.C_drewN ?_ _) | (with_reducible refine Kd.C_drew ?_))); (case side4 => exact HC1_0.out); rintro e w16 ⟨rfl, hb⟩; refine ⟨_, rfl, ?_⟩; replace BK254 := bkb_ BK254 hb; replace BK255 := bkb_ BK255 hb; replace HB := hbs_ hb; clear hb))
  go_ret
  exact ⟨eq_, bl_⟩
def spec_PolicyText.l0 : Nat → ByteArray → Int → List (S105) → Option (ByteArray)
 | 0, _, _, _ => none
 | k + 1, x3, x4, x273000 => if x4 < (x273000.length : Int) then (if 0 ≤ x4 then ((spec_l01Var.f k ((rd_T105 x273000 x4).f0)).bind fun t277 => (if x3.size + t277.size ≤ 9223372036854775807 then ((spec_l01Var.f k ((rd_T105 x273000 x4).f1.f0)).bind fun t278 => (if (x3 ++ t277).size + t278.size ≤ 9223372036854775807 then ((spec_l01Var.f k ((rd_T105 x273000 x4).f1.f1)).bind fun t279 => (if ((x3 ++ t277) ++ t278).size + t279.size ≤ 9223372036854775807 then ((spec_l01Var.f k ((rd_T105 x273000 x4).f2)).bind fun t280 => (if (((x3 ++ t277) ++ t278) ++ t279).size + t280.size ≤ 9223372036854775807 then ((spec_l01Var.f k ((rd_T105 x273000 x4).f3)).bind fun t281 => (if ((((x3 ++ t277) ++ t278) ++ t279) ++ t280).size + t281.size ≤ 9223372036854775807 then (spec_PolicyText.l0 k (((((x3 ++ t277) ++ t278) ++ t279) ++ t280) ++ t281) (wrap64 (x4 + 1)) x273000) else (none))) else (none))) else (none))) else (none))) else (none))) else (none)) else (some x3)
def spec_PolicyText.f (k : Nat) (l0_0 : List (S105)) : Option (ByteArray) := (spec_PolicyOk.f k l0_0).bind fun t273 => (if t273 = true then ((spec_l01Var.f k (l0_0.length : Int)).bind fun t274 => (spec_PolicyText.l0 k t274 0 l0_0)) else (some (⟨#[]⟩ : ByteArray)))
def spec_PolicyText.T8 : Bool × List (List Nat × List Nat) := (true, [([], []), ([], []), ([1], [1]), ([2], [2]), ([0, 3], [0, 3]), ([], []), ([5], [5]), ([6], [6]), ([7, 3], [7]), ([4, 8], [4, 8]), ([], []), ([10], [10]), ([11], [11]), ([12, 8], [12]), ([9, 13], [9, 13]), ([], []), ([15], [15]), ([16, 13], [16]), ([14, 17], [14, 17]), ([], []), ([19], [19]), ([20, 17], [20]), ([18, 21], [18, 21]), ([22, 21, 0, 1, 2, 3, 4, 5, 6, 7, 8, 9, 10, 11, 12, 13, 14, 15, 16, 17, 18, 19, 20, 21, 22], [0, 22])])
def spec_PolicyText.B8 : List Nat := [0, 0, 2, 6, 15, 0, 32, 96, 238, 511, 0, 1024, 3072, 7662, 16383, 0, 32768, 114158, 262143, 0, 524288, 1818094, 4194303, 8388607]
theorem spec_PolicyText.tab8 : rtab .any (opsOf Try.f23 8) = spec_PolicyText.T8 := by kernel_rfl
theorem spec_PolicyText.bits8 : waitsOk spec_PolicyText.T8.2 spec_PolicyText.B8 = true := by kernel_rfl
set_option maxHeartbeats 8000000 in
set_option maxRecDepth 100000 in
theorem spec_PolicyText.calls (k : Nat) (A0_0 : Option Addr) (c0_0 : Nat) (l0_0 : List (S105)) (r : ByteArray) (w : World) (hr0_0 : Kd.C k105 w A0_0 l0_0.length l0_0) (hc0_0 : l0_0.length ≤ c0_0) (h : spec_PolicyText.f k l0_0 = some r) :
  Calls Try.prog 23 #[.agg #[.slice A0_0 l0_0.length c0_0]] w fun e w' => e = .returned (.string r) ∧ Below w.heap.size w w' := by
 have hu39 := Try.underlying39
 have hu105 := Try.underlying105
 have HR0_0 := Aside0.mk hr0_0
 have HC0_0 := Aside0.mk hc0_0
 clear hr0_0 hc0_0
 have HB := Aside0.mk (Below.refl w.heap.size w)
 have H : ((spec_PolicyOk.f k l0_0).bind fun t273 => (if t273 = true then ((spec_l01Var.f k (l0_0.length : Int)).bind fun t274 => (spec_PolicyText.l0 k t274 0 l0_0)) else (some (⟨#[]⟩ : ByteArray)))) = some r := h
 clear h
 obtain ⟨t273, A2, H⟩ := bindE_ H
 by_cases c3 : t273 = true
 ·subst c3
  replace H := ite_t_ H
  obtain ⟨t274, A4, H⟩ := bindE_ H
  have H' := Aside0.mk H
  clear H
  go_enter Try.func23, Try.ntmps23
  go_wp2_with (first | ((with_reducible refine gate_dst (N := 1) rfl ?_); refine box_event ?hg (N := 1) ?hd (cs := #[.slice A0_0 l0_0.length c0_0]) (t := 39) ?hr ?_; (case hd => rfl); (case hg => rfl); (case hr => first | (go_simp; done) | (go_simp; rfl)); intro gb272 hg w5 hbox hb; have BK272 := Aside0.mk (hbox); have GW272 := gs_ hg; have GE272 := gs_ hg; replace HB := hbs_ hb; clear hb hbox hg; have hcz6 := blk_cell BK272.out; have hfz6 := blk_frozen BK272.out) | ((with_reducible refine gate_callee (f := 19) rfl ?_); refine goesC_ (some 7) Try.func19 #[.agg #[.slice A0_0 l0_0.length c0_0]] ?_; (with_reducible refine (spec_PolicyOk.calls k _ _ l0_0 true _ ?side1 ?side2 A2.out).mono ?_); (case side1 => repeat (first | exact (Kd.C_below HR0_0.out HB.out) | (with_reducible refine Kd.C_alloc ?_ _) | (with_reducible refine Kd.C_drewN ?_ _) | (with_reducible refine Kd.C_drew ?_))); (case side2 => exact HC0_0.out); rintro e w7 ⟨rfl, hb⟩; refine ⟨_, rfl, ?_⟩; replace BK272 := bkb_ BK272 hb; replace HB := hbs_ hb; clear hb; have hcz8 := blk_cell BK272.out; have hfz8 := blk_frozen BK272.out) | ((with_reducible refine gate_callee (f := 82) rfl ?_); refine goesC_ (some 12) Try.func82 #[.int .i64 (l0_0.length : Int)] ?_; (with_reducible refine (spec_l01Var.calls k (l0_0.length : Int) t274 _ A4.out).mono ?_); rintro e w9 ⟨rfl, hb⟩; refine ⟨_, rfl, ?_⟩; replace BK272 := bkb_ BK272 hb; replace HB := hbs_ hb; clear hb))
  go_loopg [3, 4] k (fun kq v3 v4 w' => ∃ (x3_1 : ByteArray) (x4_1 : Int), v3 = .string x3_1 ∧ v4 = .int .i64 x4_1 ∧ Aside0 (spec_PolicyText.l0 kq x3_1 x4_1 l0_0 = some r) ∧ Aside0 (kq ≤ k) ∧ Aside0 (w'.heap[gb272]? = some (.cells #[(.slice A0_0 l0_0.length c0_0)] 39 (0, 0))) ∧ Aside0 (Below w.heap.size w w'))
  case atStart => exact ⟨(t274), (0), (by first | rfl | (simp; done) | (simp [*]; done)), (by first | rfl | (simp; done) | (simp [*]; done)), H', ⟨Nat.le_refl _⟩, ⟨bk_ BK272⟩, ⟨bl_⟩⟩
  case round =>
   clear H'
   try clear c1
   try clear c2
   try clear p2
   try clear c3
   try clear c8
   try clear hcz6
   try clear hcz8
   try clear hfz6
   try clear hfz8
   obtain ⟨x3_1, x4_1, rfl, rfl, HA, HK1, BK272, HB⟩ := hrel
   cases gk with
   | zero => exact absurd HA.out (by simp [spec_PolicyText.l0])
   | succ k1 =>
    have H := HA.out
    clear HA
    simp only [spec_PolicyText.l0] at H
    by_cases c10 : x4_1 < (l0_0.length : Int)
    ·rw [if_pos c10] at H
     have c10b0 : decide (x4_1 < (l0_0.length : Int)) = true := decide_eq_true c10
     clear c10
     by_cases c11 : 0 ≤ x4_1
     ·rw [if_pos c11] at H
      have c11b0 : decide (0 ≤ x4_1) = true := decide_eq_true c11
      clear c11
      obtain ⟨t277, A12, H⟩ := bindE_ H
      by_cases c13 : x3_1.size + t277.size ≤ 9223372036854775807
      ·rw [if_pos c13] at H
       have c13b0 := eq_true c13
       have c13b1 : decide (x3_1.size + t277.size ≤ 9223372036854775807) = true := decide_eq_true c13
       try have c13b2 : (9223372036854775807 < x3_1.size + t277.size) = False := eq_false (Nat.not_lt.2 c13)
       obtain ⟨t278, A14, H⟩ := bindE_ H
       by_cases c15 : (x3_1 ++ t277).size + t278.size ≤ 9223372036854775807
       ·rw [if_pos c15] at H
        have c15b0 := eq_true c15
        have c15b1 : decide ((x3_1 ++ t277).size + t278.size ≤ 9223372036854775807) = true := decide_eq_true c15
        try have c15b2 : (9223372036854775807 < (x3_1 ++ t277).size + t278.size) = False := eq_false (Nat.not_lt.2 c15)
        (try (have c15b3 := c15b2; simp only [ByteArray.size_append] at c15b3)); (try (have c15b4 := c15b0; simp only [ByteArray.size_append] at c15b4))
        obtain ⟨t279, A16, H⟩ := bindE_ H
        by_cases c17 : ((x3_1 ++ t277) ++ t278).size + t279.size ≤ 9223372036854775807
        ·rw [if_pos c17] at H
         have c17b0 := eq_true c17
         have c17b1 : decide (((x3_1 ++ t277) ++ t278).size + t279.size ≤ 9223372036854775807) = true := decide_eq_true c17
         try have c17b2 : (9223372036854775807 < ((x3_1 ++ t277) ++ t278).size + t279.size) = False := eq_false (Nat.not_lt.2 c17)
         (try (have c17b3 := c17b2; simp only [ByteArray.size_append] at c17b3)); (try (have c17b4 := c17b0; simp only [ByteArray.size_append] at c17b4))
         obtain ⟨t280, A18, H⟩ := bindE_ H
         by_cases c19 : (((x3_1 ++ t277) ++ t278) ++ t279).size + t280.size ≤ 9223372036854775807
         ·rw [if_pos c19] at H
          have c19b0 := eq_true c19
          have c19b1 : decide ((((x3_1 ++ t277) ++ t278) ++ t279).size + t280.size ≤ 9223372036854775807) = true := decide_eq_true c19
          try have c19b2 : (9223372036854775807 < (((x3_1 ++ t277) ++ t278) ++ t279).size + t280.size) = False := eq_false (Nat.not_lt.2 c19)
          (try (have c19b3 := c19b2; simp only [ByteArray.size_append] at c19b3)); (try (have c19b4 := c19b0; simp only [ByteArray.size_append] at c19b4))
          obtain ⟨t281, A20, H⟩ := bindE_ H
          by_cases c21 : ((((x3_1 ++ t277) ++ t278) ++ t279) ++ t280).size + t281.size ≤ 9223372036854775807
          ·rw [if_pos c21] at H
           have c21b0 := eq_true c21
           have c21b1 : decide (((((x3_1 ++ t277) ++ t278) ++ t279) ++ t280).size + t281.size ≤ 9223372036854775807) = true := decide_eq_true c21
           try have c21b2 : (9223372036854775807 < ((((x3_1 ++ t277) ++ t278) ++ t279) ++ t280).size + t281.size) = False := eq_false (Nat.not_lt.2 c21)
           (try (have c21b3 := c21b2; simp only [ByteArray.size_append] at c21b3)); (try (have c21b4 := c21b0; simp only [ByteArray.size_append] at c21b4))
           have H' := Aside0.mk H
           clear H
           have hcz22 := blk_cell BK272.out
           have hfz22 := blk_frozen BK272.out
           have p275 : 0 ≤ (x4_1 : Int) := of_decide_eq_true (by first | (with_reducible assumption) | assumption)
           have q275 : x4_1 < (l0_0.length : Int) := of_decide_eq_true (by first | (with_reducible assumption) | assumption)
           obtain ⟨ad275, e275, hx275_0, hx275_1, hx275_2, hx275_3, hx275_4⟩ := at_T105 (Kd.C_below HR0_0.out HB.out) x4_1 p275 q275
           cases e275
           replace p275 := eq_true p275
           replace q275 := eq_true q275
           try go_wp2_with (first | ((with_reducible refine gate_dst (N := 5) rfl ?_); refine box_event ?hg (N := 5) ?hd (cs := #[.int .i64 0, .int .i64 0, .int .i64 0, .int .i64 0, .int .i64 0]) (t := 105) ?hr ?_; (case hd => rfl); (case hg => rfl); (case hr => first | (go_simp; done) | (go_simp; rfl)); intro gb276 hg w23 hbox hb; have BK276 := Aside0.mk (hbox); have GW276 := gs_ hg; have GE276 := gs_ hg; replace HB := hbs_ hb; have NB272_276 := Aside0.mk ((by rw [hg]; exact Nat.ne_of_lt (blk_lt (g := gb272) (o := .cells #[.slice (some ad275) l0_0.length c0_0] 39 (0, 0)) (bk_ BK272)) : gb272 ≠ gb276)); have NB276_272 := Aside0.mk ((by rw [hg]; exact Nat.ne_of_gt (blk_lt (g := gb272) (o := .cells #[.slice (some ad275) l0_0.length c0_0] 39 (0, 0)) (bk_ BK272)) : gb276 ≠ gb272)); replace BK272 := bkb_ BK272 hb; clear hb hbox hg; have hnb24 := NB276_272.out; have hnc24 := NB272_276.out; have hcz25 := blk_cell BK276.out; have hfz25 := blk_frozen BK276.out))
           have n0_ : Aside0 ((((((w23.setCell ⟨gb276, 0, none⟩ (.int .i64 ((rd_T105 l0_0 x4_1).f0))).setCell ⟨gb276, 1, none⟩ (.int .i64 ((rd_T105 l0_0 x4_1).f1.f0))).setCell ⟨gb276, 2, none⟩ (.int .i64 ((rd_T105 l0_0 x4_1).f1.f1))).setCell ⟨gb276, 3, none⟩ (.int .i64 ((rd_T105 l0_0 x4_1).f2))).setCell ⟨gb276, 4, none⟩ (.int .i64 ((rd_T105 l0_0 x4_1).f3))).heap[gb272]? = some (.cells #[.slice (some ad275) l0_0.length c0_0] 39 (0, 0))) := ⟨bk_ BK272⟩
           have n1_ : Aside0 ((((((w23.setCell ⟨gb276, 0, none⟩ (.int .i64 ((rd_T105 l0_0 x4_1).f0))).setCell ⟨gb276, 1, none⟩ (.int .i64 ((rd_T105 l0_0 x4_1).f1.f0))).setCell ⟨gb276, 2, none⟩ (.int .i64 ((rd_T105 l0_0 x4_1).f1.f1))).setCell ⟨gb276, 3, none⟩ (.int .i64 ((rd_T105 l0_0 x4_1).f2))).setCell ⟨gb276, 4, none⟩ (.int .i64 ((rd_T105 l0_0 x4_1).f3))).heap[gb276]? = some (.cells #[.int .i64 ((rd_T105 l0_0 x4_1).f0), .int .i64 ((rd_T105 l0_0 x4_1).f1.f0), .int .i64 ((rd_T105 l0_0 x4_1).f1.f1), .int .i64 ((rd_T105 l0_0 x4_1).f2), .int .i64 ((rd_T105 l0_0 x4_1).f3)] 105 (0, 0))) := ⟨bk_ BK276⟩
           have n2_ : Aside0 (Below w.heap.size w (((((w23.setCell ⟨gb276, 0, none⟩ (.int .i64 ((rd_T105 l0_0 x4_1).f0))).setCell ⟨gb276, 1, none⟩ (.int .i64 ((rd_T105 l0_0 x4_1).f1.f0))).setCell ⟨gb276, 2, none⟩ (.int .i64 ((rd_T105 l0_0 x4_1).f1.f1))).setCell ⟨gb276, 3, none⟩ (.int .i64 ((rd_T105 l0_0 x4_1).f2))).setCell ⟨gb276, 4, none⟩ (.int .i64 ((rd_T105 l0_0 x4_1).f3)))) := ⟨bl_⟩
           (try clear BK272)
           (try clear BK276)
           (try clear HB)
           generalize (((((w23.setCell ⟨gb276, 0, none⟩ (.int .i64 ((rd_T105 l0_0 x4_1).f0))).setCell ⟨gb276, 1, none⟩ (.int .i64 ((rd_T105 l0_0 x4_1).f1.f0))).setCell ⟨gb276, 2, none⟩ (.int .i64 ((rd_T105 l0_0 x4_1).f1.f1))).setCell ⟨gb276, 3, none⟩ (.int .i64 ((rd_T105 l0_0 x4_1).f2))).setCell ⟨gb276, 4, none⟩ (.int .i64 ((rd_T105 l0_0 x4_1).f3))) = w26 at n0_ n1_ n2_ ⊢
           have BK272 := n0_
           have BK276 := n1_
           have HB := n2_
           clear n0_ n1_ n2_
           replace BK272 := Aside0.mk (blk_drew BK272.out)
           replace BK276 := Aside0.mk (blk_drew BK276.out)
           replace HB := Aside0.mk (below_drew1 HB.out)
           refine start_ (n := 24) (S := fun w' => w'.cell? ⟨gb276, 0, none⟩ = some (.int .i64 ((rd_T105 l0_0 x4_1).f0)) ∧ w'.cell? ⟨gb276, 1, none⟩ = some (.int .i64 ((rd_T105 l0_0 x4_1).f1.f0)) ∧ w'.cell? ⟨gb276, 2, none⟩ = some (.int .i64 ((rd_T105 l0_0 x4_1).f1.f1)) ∧ w'.cell? ⟨gb276, 3, none⟩ = some (.int .i64 ((rd_T105 l0_0 x4_1).f2)) ∧ w'.cell? ⟨gb276, 4, none⟩ = some (.int .i64 ((rd_T105 l0_0 x4_1).f3))) (ds := []) #[false, false, false, false, false, false, false, false, false, false, false, false, false, false, false, false, false, false, false, false, false, false, false, false] (by kernel_rfl) rfl rfl ⟨(blk_cell BK276.out 0).trans rfl, (blk_cell BK276.out 1).trans rfl, (blk_cell BK276.out 2).trans rfl, (blk_cell BK276.out 3).trans rfl, (blk_cell BK276.out 4).trans rfl⟩ (fun hHeld => ?_); refine with_tabW spec_PolicyText.tab8 spec_PolicyText.bits8 (fun HT_ HW_ => ?_)
           generalize w26.drew = w27 at BK272 BK276 HB hHeld ⊢
           refine pureZ_ (i := 0) (some 25) #[true, false, false, false, false, false, false, false, false, false, false, false, false, false, false, false, false, false, false, false, false, false, false, false] (any_of HT_.out (by kernel_rfl)) ?_
           refine pureZ_ (i := 1) (some 26) #[true, true, false, false, false, false, false, false, false, false, false, false, false, false, false, false, false, false, false, false, false, false, false, false] (any_of HT_.out (by kernel_rfl)) ?_
           refine pureZ_ (i := 5) (some 30) #[true, true, false, false, false, true, false, false, false, false, false, false, false, false, false, false, false, false, false, false, false, false, false, false] (any_of HT_.out (by kernel_rfl)) ?_
           refine pureZ_ (i := 6) (some 31) #[true, true, false, false, false, true, true, false, false, false, false, false, false, false, false, false, false, false, false, false, false, false, false, false] (any_of HT_.out (by kernel_rfl)) ?_
           refine pureZ_ (i := 10) (some 35) #[true, true, false, false, false, true, true, false, false, false, true, false, false, false, false, false, false, false, false, false, false, false, false, false] (any_of HT_.out (by kernel_rfl)) ?_
           refine pureZ_ (i := 11) (some 36) #[true, true, false, false, false, true, true, false, false, false, true, true, false, false, false, false, false, false, false, false, false, false, false, false] (any_of HT_.out (by kernel_rfl)) ?_
           refine pureZ_ (i := 15) (some 40) #[true, true, false, false, false, true, true, false, false, false, true, true, false, false, false, true, false, false, false, false, false, false, false, false] (any_of HT_.out (by kernel_rfl)) ?_
           refine pureZ_ (i := 19) (some 44) #[true, true, false, false, false, true, true, false, false, false, true, true, false, false, false, true, false, false, false, true, false, false, false, false] (any_of HT_.out (by kernel_rfl)) ?_
           refine takeZ_ (i := 2) (some 27) #[true, true, true, false, false, true, true, false, false, false, true, true, false, false, false, true, false, false, false, true, false, false, false, false] (take_ofW HT_.out HW_.out (by kernel_rfl)) hHeld ?_
           refine takeZ_ (i := 7) (some 32) #[true, true, true, false, false, true, true, true, false, false, true, true, false, false, false, true, false, false, false, true, false, false, false, false] (take_ofW HT_.out HW_.out (by kernel_rfl)) hHeld ?_
           refine takeZ_ (i := 12) (some 37) #[true, true, true, false, false, true, true, true, false, false, true, true, true, false, false, true, false, false, false, true, false, false, false, false] (take_ofW HT_.out HW_.out (by kernel_rfl)) hHeld ?_
           refine takeZ_ (i := 16) (some 41) #[true, true, true, false, false, true, true, true, false, false, true, true, true, false, false, true, true, false, false, true, false, false, false, false] (take_ofW HT_.out HW_.out (by kernel_rfl)) hHeld ?_
           refine takeZ_ (i := 20) (some 45) #[true, true, true, false, false, true, true, true, false, false, true, true, true, false, false, true, true, false, false, true, true, false, false, false] (take_ofW HT_.out HW_.out (by kernel_rfl)) hHeld ?_
           refine one_ (i := 3) (N := some 28) #[true, true, true, true, false, true, true, true, false, false, true, true, true, false, false, true, true, false, false, true, true, false, false, false] rfl rfl (one_of HT_.out (by kernel_rfl)) (by decide) (fun K hK => ?_)
           refine goes_ Try.func82 (by kernel_rfl) rfl #[.int .i64 ((rd_T105 l0_0 x4_1).f0)] (by rfl) rfl rfl (by (try simp only [List.map_toArray, List.map_cons, List.map_nil]); first | done | rfl | (simp only [List.length_drop, List.length_take]; rfl)) ?_
           with_reducible refine (spec_l01Var.calls k1 ((rd_T105 l0_0 x4_1).f0) t277 _ A12.out).mono ?_
           rintro e w28 ⟨rfl, hb⟩
           refine ⟨_, rfl, ?_⟩
           replace BK272 := bkb_ BK272 hb
           replace BK276 := bkb_ BK276 hb
           replace HB := hbs_ hb
           (try clear hb)
           (try clear hb2)
           (try clear hk)
           (try clear hi)
           refine hK.out _ _ ⟨(blk_cell BK276.out 0).trans rfl, (blk_cell BK276.out 1).trans rfl, (blk_cell BK276.out 2).trans rfl, (blk_cell BK276.out 3).trans rfl, (blk_cell BK276.out 4).trans rfl⟩ (fun hHeld => ?_)
           clear hK K
           refine norm_ (a' := ?_) ?_ ?_
           rotate_left
           ·show Act.put _ (some 28) _ = _
            simp only [Act.put, List.setIfInBounds_toArray, List.set_cons_zero, List.set_cons_succ, i64_w, i32_w]
            rfl
           refine pureZ_ (i := 4) (some 29) #[true, true, true, true, true, true, true, true, false, false, true, true, true, false, false, true, true, false, false, true, true, false, false, false] (any_of HT_.out (by kernel_rfl)) ?_
           refine one_ (i := 8) (N := some 33) #[true, true, true, true, true, true, true, true, true, false, true, true, true, false, false, true, true, false, false, true, true, false, false, false] rfl rfl (one_of HT_.out (by kernel_rfl)) (by decide) (fun K hK => ?_)
           refine goes_ Try.func82 (by kernel_rfl) rfl #[.int .i64 ((rd_T105 l0_0 x4_1).f1.f0)] (by rfl) rfl rfl (by (try simp only [List.map_toArray, List.map_cons, List.map_nil]); first | done | rfl | (simp only [List.length_drop, List.length_take]; rfl)) ?_
           with_reducible refine (spec_l01Var.calls k1 ((rd_T105 l0_0 x4_1).f1.f0) t278 _ A14.out).mono ?_
           rintro e w29 ⟨rfl, hb⟩
           refine ⟨_, rfl, ?_⟩
           replace BK272 := bkb_ BK272 hb
           replace BK276 := bkb_ BK276 hb
           replace HB := hbs_ hb
           (try clear hb)
           (try clear hb2)
           (try clear hk)
           (try clear hi)
           refine hK.out _ _ ⟨(blk_cell BK276.out 0).trans rfl, (blk_cell BK276.out 1).trans rfl, (blk_cell BK276.out 2).trans rfl, (blk_cell BK276.out 3).trans rfl, (blk_cell BK276.out 4).trans rfl⟩ (fun hHeld => ?_)
           clear hK K
           refine norm_ (a' := ?_) ?_ ?_
           rotate_left
           ·show Act.put _ (some 33) _ = _
            simp only [Act.put, List.setIfInBounds_toArray, List.set_cons_zero, List.set_cons_succ, i64_w, i32_w]
            rfl
           refine pureZ_ (i := 9) (some 34) #[true, true, true, true, true, true, true, true, true, true, true, true, true, false, false, true, true, false, false, true, true, false, false, false] (any_of HT_.out (by kernel_rfl)) ?_
           refine one_ (i := 13) (N := some 38) #[true, true, true, true, true, true, true, true, true, true, true, true, true, true, false, true, true, false, false, true, true, false, false, false] rfl rfl (one_of HT_.out (by kernel_rfl)) (by decide) (fun K hK => ?_)
           refine goes_ Try.func82 (by kernel_rfl) rfl #[.int .i64 ((rd_T105 l0_0 x4_1).f1.f1)] (by rfl) rfl rfl (by (try simp only [List.map_toArray, List.map_cons, List.map_nil]); first | done | rfl | (simp only [List.length_drop, List.length_take]; rfl)) ?_
           with_reducible refine (spec_l01Var.calls k1 ((rd_T105 l0_0 x4_1).f1.f1) t279 _ A16.out).mono ?_
           rintro e w30 ⟨rfl, hb⟩
           refine ⟨_, rfl, ?_⟩
           replace BK272 := bkb_ BK272 hb
           replace BK276 := bkb_ BK276 hb
           replace HB := hbs_ hb
           (try clear hb)
           (try clear hb2)
           (try clear hk)
           (try clear hi)
           refine hK.out _ _ ⟨(blk_cell BK276.out 0).trans rfl, (blk_cell BK276.out 1).trans rfl, (blk_cell BK276.out 2).trans rfl, (blk_cell BK276.out 3).trans rfl, (blk_cell BK276.out 4).trans rfl⟩ (fun hHeld => ?_)
           clear hK K
           refine norm_ (a' := ?_) ?_ ?_
           rotate_left
           ·show Act.put _ (some 38) _ = _
            simp only [Act.put, List.setIfInBounds_toArray, List.set_cons_zero, List.set_cons_succ, i64_w, i32_w]
            rfl
           refine pureZ_ (i := 14) (some 39) #[true, true, true, true, true, true, true, true, true, true, true, true, true, true, true, true, true, false, false, true, true, false, false, false] (any_of HT_.out (by kernel_rfl)) ?_
           refine one_ (i := 17) (N := some 42) #[true, true, true, true, true, true, true, true, true, true, true, true, true, true, true, true, true, true, false, true, true, false, false, false] rfl rfl (one_of HT_.out (by kernel_rfl)) (by decide) (fun K hK => ?_)
           refine goes_ Try.func82 (by kernel_rfl) rfl #[.int .i64 ((rd_T105 l0_0 x4_1).f2)] (by rfl) rfl rfl (by (try simp only [List.map_toArray, List.map_cons, List.map_nil]); first | done | rfl | (simp only [List.length_drop, List.length_take]; rfl)) ?_
           with_reducible refine (spec_l01Var.calls k1 ((rd_T105 l0_0 x4_1).f2) t280 _ A18.out).mono ?_
           rintro e w31 ⟨rfl, hb⟩
           refine ⟨_, rfl, ?_⟩
           replace BK272 := bkb_ BK272 hb
           replace BK276 := bkb_ BK276 hb
           replace HB := hbs_ hb
           (try clear hb)
           (try clear hb2)
           (try clear hk)
           (try clear hi)
           refine hK.out _ _ ⟨(blk_cell BK276.out 0).trans rfl, (blk_cell BK276.out 1).trans rfl, (blk_cell BK276.out 2).trans rfl, (blk_cell BK276.out 3).trans rfl, (blk_cell BK276.out 4).trans rfl⟩ (fun hHeld => ?_)
           clear hK K
           refine norm_ (a' := ?_) ?_ ?_
           rotate_left
           ·show Act.put _ (some 42) _ = _
            simp only [Act.put, List.setIfInBounds_toArray, List.set_cons_zero, List.set_cons_succ, i64_w, i32_w]
            rfl
           refine pureZ_ (i := 18) (some 43) #[true, true, true, true, true, true, true, true, true, true, true, true, true, true, true, true, true, true, true, true, true, false, false, false] (any_of HT_.out (by kernel_rfl)) ?_
           refine one_ (i := 21) (N := some 46) #[true, true, true, true, true, true, true, true, true, true, true, true, true, true, true, true, true, true, true, true, true, true, false, false] rfl rfl (one_of HT_.out (by kernel_rfl)) (by decide) (fun K hK => ?_)
           refine goes_ Try.func82 (by kernel_rfl) rfl #[.int .i64 ((rd_T105 l0_0 x4_1).f3)] (by rfl) rfl rfl (by (try simp only [List.map_toArray, List.map_cons, List.map_nil]); first | done | rfl | (simp only [List.length_drop, List.length_take]; rfl)) ?_
           with_reducible refine (spec_l01Var.calls k1 ((rd_T105 l0_0 x4_1).f3) t281 _ A20.out).mono ?_
           rintro e w32 ⟨rfl, hb⟩
           refine ⟨_, rfl, ?_⟩
           replace BK272 := bkb_ BK272 hb
           replace BK276 := bkb_ BK276 hb
           replace HB := hbs_ hb
           (try clear hb)
           (try clear hb2)
           (try clear hk)
           (try clear hi)
           refine hK.out _ _ ⟨(blk_cell BK276.out 0).trans rfl, (blk_cell BK276.out 1).trans rfl, (blk_cell BK276.out 2).trans rfl, (blk_cell BK276.out 3).trans rfl, (blk_cell BK276.out 4).trans rfl⟩ (fun hHeld => ?_)
           clear hK K
           refine norm_ (a' := ?_) ?_ ?_
           rotate_left
           ·show Act.put _ (some 46) _ = _
            simp only [Act.put, List.setIfInBounds_toArray, List.set_cons_zero, List.set_cons_succ, i64_w, i32_w]
            rfl
           refine pureZ_ (i := 22) (some 47) #[true, true, true, true, true, true, true, true, true, true, true, true, true, true, true, true, true, true, true, true, true, true, true, false] (any_of HT_.out (by kernel_rfl)) ?_
           refine pureZ_ (i := 23) (some 3) #[true, true, true, true, true, true, true, true, true, true, true, true, true, true, true, true, true, true, true, true, true, true, true, true] (any_of HT_.out (by kernel_rfl)) ?_
           refine done_ (done_of HT_.out (by kernel_rfl)) ?_
           try go_wp2
           go_roundg k1
           case measure => have := HK1.out; omega
           case rel => exact ⟨(((((x3_1 ++ t277) ++ t278) ++ t279) ++ t280) ++ t281), (wrap64 (x4_1 + 1)), (by first | rfl | (simp; done) | (simp [*]; done)), (by first | rfl | (simp; done) | (simp [*]; done)), H', ⟨by have := HK1.out; omega⟩, ⟨bk_ BK272⟩, ⟨bl_⟩⟩
          ·rw [if_neg c21] at H
           exact absurd H (by simp)
         ·rw [if_neg c19] at H
          exact absurd H (by simp)
        ·rw [if_neg c17] at H
         exact absurd H (by simp)
       ·rw [if_neg c15] at H
        exact absurd H (by simp)
      ·rw [if_neg c13] at H
       exact absurd H (by simp)
     ·rw [if_neg c11] at H
      exact absurd H (by simp)
    ·rw [if_neg c10] at H
     have c10b0 : decide (x4_1 < (l0_0.length : Int)) = false := decide_eq_false c10
     clear c10
     obtain rfl := Option.some.inj H
     have hcz33 := blk_cell BK272.out
     have hfz33 := blk_frozen BK272.out
     go_wp2
     go_ret
     exact ⟨eq_, bl_⟩
 ·replace c3 := Bool.eq_false_iff.mpr c3
  subst c3
  replace H := ite_f_ H
  obtain rfl := Option.some.inj H
  go_enter Try.func23, Try.ntmps23
  go_wp2_with (first | ((with_reducible refine gate_dst (N := 1) rfl ?_); refine box_event ?hg (N := 1) ?hd (cs := #[.slice A0_0 l0_0.length c0_0]) (t := 39) ?hr ?_; (case hd => rfl); (case hg => rfl); (case hr => first | (go_simp; done) | (go_simp; rfl)); intro gb272 hg w34 hbox hb; have BK272 := Aside0.mk (hbox); have GW272 := gs_ hg; have GE272 := gs_ hg; replace HB := hbs_ hb; clear hb hbox hg; have hcz35 := blk_cell BK272.out; have hfz35 := blk_frozen BK272.out) | ((with_reducible refine gate_callee (f := 19) rfl ?_); refine goesC_ (some 7) Try.func19 #[.agg #[.slice A0_0 l0_0.length c0_0]] ?_; (with_reducible refine (spec_PolicyOk.calls k _ _ l0_0 false _ ?side1 ?side2 A2.out).mono ?_); (case side1 => repeat (first | exact (Kd.C_below HR0_0.out HB.out) | (with_reducible refine Kd.C_alloc ?_ _) | (with_reducible refine Kd.C_drewN ?_ _) | (with_reducible refine Kd.C_drew ?_))); (case side2 => exact HC0_0.out); rintro e w36 ⟨rfl, hb⟩; refine ⟨_, rfl, ?_⟩; replace BK272 := bkb_ BK272 hb; replace HB := hbs_ hb; clear hb))
  go_ret
  exact ⟨eq_, bl_⟩
end Go.Proofs.Ytcgnegnljffkmaa.PA
