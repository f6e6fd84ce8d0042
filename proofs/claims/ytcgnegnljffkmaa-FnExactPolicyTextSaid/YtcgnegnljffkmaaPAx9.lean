-- A text of this claim: written by the session's own program out of the translation (wip/tools). Lean checks it.
import Derived.Test.YtcgnegnljffkmaaPAx0
import Derived.Test.YtcgnegnljffkmaaPAx3
import Derived.Test.YtcgnegnljffkmaaPAx4
import Derived.Test.YtcgnegnljffkmaaPAx5
import Derived.Test.YtcgnegnljffkmaaPAx7
namespace Go.Proofs.Ytcgnegnljffkmaa.PA
open Go.RowKit Go.Proofs.YtcgnegnljffkmaaW.PrintWords Go.Proofs.YtcgnegnljffkmaaW.PrintLast Go.Proofs.YtcgnegnljffkmaaW.PrintMore
attribute [local go_sem] max2_int min2_int max_two min_two max_three min_three max_four min_four   -- for this text's walks alone
set_option linter.unusedVariables false
set_option linter.unusedSimpArgs false

/-! ### spec_PolicyText: function 23 -/
def spec_PolicyText.l0 : Nat → ByteArray → Int → List (S105) → Option (ByteArray)
  | 0, _, _, _ => none
  | k + 1, x3, x4, x273000 => if x4 < (x273000.length : Int) then (if 0 ≤ x4 then ((spec_l01Var.f k ((rd_T105 x273000 x4).f0)).bind fun t277 => (if x3.size + t277.size ≤ 9223372036854775807 then ((spec_l01Var.f k ((rd_T105 x273000 x4).f1.f0)).bind fun t278 => (if (x3 ++ t277).size + t278.size ≤ 9223372036854775807 then ((spec_l01Var.f k ((rd_T105 x273000 x4).f1.f1)).bind fun t279 => (if ((x3 ++ t277) ++ t278).size + t279.size ≤ 9223372036854775807 then ((spec_l01Var.f k ((rd_T105 x273000 x4).f2)).bind fun t280 => (if (((x3 ++ t277) ++ t278) ++ t279).size + t280.size ≤ 9223372036854775807 then ((spec_l01Var.f k ((rd_T105 x273000 x4).f3)).bind fun t281 => (if ((((x3 ++ t277) ++ t278) ++ t279) ++ t280).size + t281.size ≤ 9223372036854775807 then (spec_PolicyText.l0 k (((((x3 ++ t277) ++ t278) ++ t279) ++ t280) ++ t281) (wrap64 (x4 + 1)) x273000) else (none))) else (none))) else (none))) else (none))) else (none))) else (none)) else (some x3)
def spec_PolicyText.f (k : Nat) (l0_0 : List (S105)) : Option (ByteArray) := (spec_PolicyOk.f k l0_0).bind fun t273 => (if t273 = true then ((spec_l01Var.f k (l0_0.length : Int)).bind fun t274 => (spec_PolicyText.l0 k t274 0 l0_0)) else (some (⟨#[]⟩ : ByteArray)))
theorem spec_PolicyText.mono_l : ∀ k, (∀ y0 y1 y2, LeO (spec_PolicyText.l0 k y0 y1 y2) (spec_PolicyText.l0 (k + 1) y0 y1 y2))
  | 0 => fun _ _ _ r h => by simp [spec_PolicyText.l0] at h
  | k + 1 => by
    have ih0 := spec_PolicyText.mono_l k
    · intro y0 y1 y2
      unfold spec_PolicyText.l0
      repeat' first
      | (with_reducible exact ih0 _ _ _)
      | (with_reducible exact spec_PolicyOk.mono _ _)
      | (with_reducible exact spec_l01Var.mono _ _)
      | (with_reducible exact LeO.refl _)
      | (with_reducible exact LeO.none _)
      | (with_reducible refine LeO.ite ?_ ?_)
      | (with_reducible refine LeO.bind ?_ (fun _ => ?_))
      | exact ih0 _ _ _
      | exact spec_PolicyOk.mono _ _
      | exact spec_l01Var.mono _ _
      | exact LeO.none _
      | refine LeO.ite ?_ ?_
      | refine LeO.bind ?_ (fun _ => ?_)
theorem spec_PolicyText.mono : ∀ a0 k, LeO (spec_PolicyText.f k a0) (spec_PolicyText.f (k + 1) a0) := by
  intro a0 k
  have ih0 := spec_PolicyText.mono_l k
  unfold spec_PolicyText.f
  repeat' first
      | (with_reducible exact ih0 _ _ _)
      | (with_reducible exact spec_PolicyOk.mono _ _)
      | (with_reducible exact spec_l01Var.mono _ _)
      | (with_reducible exact LeO.refl _)
      | (with_reducible exact LeO.none _)
      | (with_reducible refine LeO.ite ?_ ?_)
      | (with_reducible refine LeO.bind ?_ (fun _ => ?_))
      | exact ih0 _ _ _
      | exact spec_PolicyOk.mono _ _
      | exact spec_l01Var.mono _ _
      | exact LeO.none _
      | refine LeO.ite ?_ ?_
      | refine LeO.bind ?_ (fun _ => ?_)
def spec_PolicyText.T8 : Bool × List (List Nat × List Nat) := (true, [([], []), ([], []), ([1], [1]), ([2], [2]), ([0, 3], [0, 3]), ([], []), ([5], [5]), ([6], [6]), ([7, 3], [7]), ([4, 8], [4, 8]), ([], []), ([10], [10]), ([11], [11]), ([12, 8], [12]), ([9, 13], [9, 13]), ([], []), ([15], [15]), ([16, 13], [16]), ([14, 17], [14, 17]), ([], []), ([19], [19]), ([20, 17], [20]), ([18, 21], [18, 21]), ([22, 21, 0, 1, 2, 3, 4, 5, 6, 7, 8, 9, 10, 11, 12, 13, 14, 15, 16, 17, 18, 19, 20, 21, 22], [0, 22])])
def spec_PolicyText.B8 : List Nat := [0, 0, 2, 6, 15, 0, 32, 96, 238, 511, 0, 1024, 3072, 7662, 16383, 0, 32768, 114158, 262143, 0, 524288, 1818094, 4194303, 8388607]
theorem spec_PolicyText.tab8 : rtab .any (opsOf Try.f23 8) = spec_PolicyText.T8 := by kernel_rfl
theorem spec_PolicyText.bits8 : waitsOk spec_PolicyText.T8.2 spec_PolicyText.B8 = true := by kernel_rfl
set_option maxHeartbeats 8000000 in
set_option maxRecDepth 100000 in
theorem spec_PolicyText.calls (k : Nat) (A0_0 : Option Addr) (c0_0 : Nat) (l0_0 : List (S105)) (r : ByteArray) (w : World) (hr0_0 : Kd.C k105 w A0_0 l0_0.length l0_0) (hc0_0 : l0_0.length ≤ c0_0) (h : spec_PolicyText.f k l0_0 = some r) :
    Calls Try.prog 23 #[.agg #[.slice A0_0 l0_0.length c0_0]] w fun e w' => e = .returned (.string r) ∧ Below w.heap.size w w' := by
  have hu39 := Try.underlying39
  have hu105 := Try.underlying105
  have HR0_0 := Aside0.mk hr0_0
  have HC0_0 := Aside0.mk hc0_0
  clear hr0_0 hc0_0
  have HB := Aside0.mk (Below.refl w.heap.size w)
  have H : ((spec_PolicyOk.f k l0_0).bind fun t273 => (if t273 = true then ((spec_l01Var.f k (l0_0.length : Int)).bind fun t274 => (spec_PolicyText.l0 k t274 0 l0_0)) else (some (⟨#[]⟩ : ByteArray)))) = some r := h
  clear h
  obtain ⟨t273, A2, H⟩ := bindE_ H
  by_cases c3 : t273 = true
  · subst c3
    replace H := ite_t_ H
    obtain ⟨t274, A4, H⟩ := bindE_ H
    have H' := Aside0.mk H
    clear H
    go_enter Try.func23, Try.ntmps23
    go_wp2_with (first | ((with_reducible refine gate_dst (N := 1) rfl ?_); refine box_event ?hg (N := 1) ?hd (cs := #[.slice A0_0 l0_0.length c0_0]) (t := 39) ?hr ?_; (case hd => rfl); (case hg => rfl); (case hr => first | (go_simp; done) | (go_simp; rfl)); intro gb272 hg w5 hbox hb; have n0_ := Aside0.mk (below_step bl_ hb); have n1_ := Aside0.mk (hbox); have n2_ := Aside0.mk ((by rw [hg]; exact bls_ : w.heap.size ≤ gb272)); have n3_ := Aside0.mk ((by rw [hg]; exact bls_ : w.heap.size ≤ gb272)); clear HB; have HB := n0_; have BK272 := n1_; have GW272 := n2_; have GE272 := n3_; clear n0_ n1_ n2_ n3_; clear hb hbox hg; have hcz6 := blk_cell BK272.out; have hfz6 := blk_frozen BK272.out) | ((with_reducible refine gate_callee (f := 19) rfl ?_); refine goesL_ (some 7) rfl rfl Try.func19 (by kernel_rfl) rfl #[.agg #[.slice A0_0 l0_0.length c0_0]] rfl (by (try simp only [List.map_toArray, List.map_cons, List.map_nil]); first | done | rfl | (simp only [List.length_drop, List.length_take]; rfl)) ?_; (with_reducible refine (spec_PolicyOk.calls k _ _ l0_0 true _ ?side1 ?side2 A2.out).mono ?_); (case side1 => repeat (first | exact (Kd.C_below HR0_0.out HB.out) | (with_reducible refine Kd.C_alloc ?_ _) | (with_reducible refine Kd.C_drewN ?_ _) | (with_reducible refine Kd.C_drew ?_))); (case side2 => exact HC0_0.out); rintro e w7 ⟨rfl, hb⟩; refine ⟨_, rfl, ?_⟩; have n0_ := Aside0.mk (blk_below (g := gb272) (o := .cells #[.slice A0_0 l0_0.length c0_0] 39 (0, 0)) (blw_ BK272) hb); have n1_ := Aside0.mk (below_step bl_ hb); clear BK272; clear HB; have BK272 := n0_; have HB := n1_; clear n0_ n1_; (try clear hb); (try clear hb2); (try clear hk); (try clear hi); have hcz8 := blk_cell BK272.out; have hfz8 := blk_frozen BK272.out) | ((with_reducible refine gate_callee (f := 82) rfl ?_); refine goesL_ (some 12) rfl rfl Try.func82 (by kernel_rfl) rfl #[.int .i64 (l0_0.length : Int)] rfl (by (try simp only [List.map_toArray, List.map_cons, List.map_nil]); first | done | rfl | (simp only [List.length_drop, List.length_take]; rfl)) ?_; (with_reducible refine (spec_l01Var.calls k (l0_0.length : Int) t274 _ A4.out).mono ?_); rintro e w9 ⟨rfl, hb⟩; refine ⟨_, rfl, ?_⟩; have n0_ := Aside0.mk (blk_below (g := gb272) (o := .cells #[.slice A0_0 l0_0.length c0_0] 39 (0, 0)) (blw_ BK272) hb); have n1_ := Aside0.mk (below_step bl_ hb); clear BK272; clear HB; have BK272 := n0_; have HB := n1_; clear n0_ n1_; (try clear hb); (try clear hb2); (try clear hk); (try clear hi)))
    go_loopg [3, 4] k (fun kq v3 v4 w' => ∃ (x3_1 : ByteArray) (x4_1 : Int), v3 = .string x3_1 ∧ v4 = .int .i64 x4_1 ∧ Aside0 (spec_PolicyText.l0 kq x3_1 x4_1 l0_0 = some r) ∧ Aside0 (kq ≤ k) ∧ Aside0 (w'.heap[gb272]? = some (.cells #[(.slice A0_0 l0_0.length c0_0)] 39 (0, 0))) ∧ Aside0 (Below w.heap.size w w'))
    case atStart => exact ⟨(t274), (0), (by first | rfl | (simp; done) | (simp [*]; done)), (by first | rfl | (simp; done) | (simp [*]; done)), H', ⟨Nat.le_refl _⟩, ⟨by (with_reducible repeat (first | refine blk_drewN ?_ _ | refine blk_drew ?_ | refine blk_alloc ?_ _)); exact BK272.out⟩, ⟨bl_⟩⟩
    case round =>
      clear H'
      try clear c1
      try clear c2
      try clear p2
      try clear c3
      try clear c8
      try clear hcz6
      try clear hcz8
      try clear hfz6
      try clear hfz8
      obtain ⟨x3_1, x4_1, rfl, rfl, HA, HK1, BK272, HB⟩ := hrel
      cases gk with
      | zero => exact absurd HA.out (by simp [spec_PolicyText.l0])
      | succ k1 =>
        have H := HA.out
        clear HA
        simp only [spec_PolicyText.l0] at H
        by_cases c10 : x4_1 < (l0_0.length : Int)
        · rw [if_pos c10] at H
          have c10b0 : decide (x4_1 < (l0_0.length : Int)) = true := decide_eq_true c10
          clear c10
          by_cases c11 : 0 ≤ x4_1
          · rw [if_pos c11] at H
            have c11b0 : decide (0 ≤ x4_1) = true := decide_eq_true c11
            clear c11
            obtain ⟨t277, A12, H⟩ := bindE_ H
            by_cases c13 : x3_1.size + t277.size ≤ 9223372036854775807
            · rw [if_pos c13] at H
              have c13b0 := eq_true c13
              have c13b1 : decide (x3_1.size + t277.size ≤ 9223372036854775807) = true := decide_eq_true c13
              try have c13b2 : (9223372036854775807 < x3_1.size + t277.size) = False := eq_false (Nat.not_lt.2 c13)
              obtain ⟨t278, A14, H⟩ := bindE_ H
              by_cases c15 : (x3_1 ++ t277).size + t278.size ≤ 9223372036854775807
              · rw [if_pos c15] at H
                have c15b0 := eq_true c15
                have c15b1 : decide ((x3_1 ++ t277).size + t278.size ≤ 9223372036854775807) = true := decide_eq_true c15
                try have c15b2 : (9223372036854775807 < (x3_1 ++ t277).size + t278.size) = False := eq_false (Nat.not_lt.2 c15)
                (try (have c15b3 := c15b2; simp only [ByteArray.size_append] at c15b3)); (try (have c15b4 := c15b0; simp only [ByteArray.size_append] at c15b4))
                obtain ⟨t279, A16, H⟩ := bindE_ H
                by_cases c17 : ((x3_1 ++ t277) ++ t278).size + t279.size ≤ 9223372036854775807
                · rw [if_pos c17] at H
                  have c17b0 := eq_true c17
                  have c17b1 : decide (((x3_1 ++ t277) ++ t278).size + t279.size ≤ 9223372036854775807) = true := decide_eq_true c17
                  try have c17b2 : (9223372036854775807 < ((x3_1 ++ t277) ++ t278).size + t279.size) = False := eq_false (Nat.not_lt.2 c17)
                  (try (have c17b3 := c17b2; simp only [ByteArray.size_append] at c17b3)); (try (have c17b4 := c17b0; simp only [ByteArray.size_append] at c17b4))
                  obtain ⟨t280, A18, H⟩ := bindE_ H
                  by_cases c19 : (((x3_1 ++ t277) ++ t278) ++ t279).size + t280.size ≤ 9223372036854775807
                  · rw [if_pos c19] at H
                    have c19b0 := eq_true c19
                    have c19b1 : decide ((((x3_1 ++ t277) ++ t278) ++ t279).size + t280.size ≤ 9223372036854775807) = true := decide_eq_true c19
                    try have c19b2 : (9223372036854775807 < (((x3_1 ++ t277) ++ t278) ++ t279).size + t280.size) = False := eq_false (Nat.not_lt.2 c19)
                    (try (have c19b3 := c19b2; simp only [ByteArray.size_append] at c19b3)); (try (have c19b4 := c19b0; simp only [ByteArray.size_append] at c19b4))
                    obtain ⟨t281, A20, H⟩ := bindE_ H
                    by_cases c21 : ((((x3_1 ++ t277) ++ t278) ++ t279) ++ t280).size + t281.size ≤ 9223372036854775807
                    · rw [if_pos c21] at H
                      have c21b0 := eq_true c21
                      have c21b1 : decide (((((x3_1 ++ t277) ++ t278) ++ t279) ++ t280).size + t281.size ≤ 9223372036854775807) = true := decide_eq_true c21
                      try have c21b2 : (9223372036854775807 < ((((x3_1 ++ t277) ++ t278) ++ t279) ++ t280).size + t281.size) = False := eq_false (Nat.not_lt.2 c21)
                      (try (have c21b3 := c21b2; simp only [ByteArray.size_append] at c21b3)); (try (have c21b4 := c21b0; simp only [ByteArray.size_append] at c21b4))
                      have H' := Aside0.mk H
                      clear H
                      have hcz22 := blk_cell BK272.out
                      have hfz22 := blk_frozen BK272.out
                      have p275 : 0 ≤ (x4_1 : Int) := of_decide_eq_true (by first | (with_reducible assumption) | assumption)
                      have q275 : x4_1 < (l0_0.length : Int) := of_decide_eq_true (by first | (with_reducible assumption) | assumption)
                      obtain ⟨ad275, e275, hx275_0, hx275_1, hx275_2, hx275_3, hx275_4⟩ := at_T105 HR0_0.out x4_1 p275 q275
                      cases e275
                      replace hx275_0 := cb_ HB hx275_0
                      replace hx275_1 := cb_ HB hx275_1
                      replace hx275_2 := cb_ HB hx275_2
                      replace hx275_3 := cb_ HB hx275_3
                      replace hx275_4 := cb_ HB hx275_4
                      replace p275 := eq_true p275
                      replace q275 := eq_true q275
                      try go_wp2_with (first | ((with_reducible refine gate_dst (N := 5) rfl ?_); refine box_event ?hg (N := 5) ?hd (cs := #[.int .i64 0, .int .i64 0, .int .i64 0, .int .i64 0, .int .i64 0]) (t := 105) ?hr ?_; (case hd => rfl); (case hg => rfl); (case hr => first | (go_simp; done) | (go_simp; rfl)); intro gb276 hg w23 hbox hb; have n0_ := Aside0.mk (blk_below (g := gb272) (o := .cells #[.slice (some ad275) l0_0.length c0_0] 39 (0, 0)) (blw_ BK272) hb); have n1_ := Aside0.mk (below_step bl_ hb); have n2_ := Aside0.mk (hbox); have n3_ := Aside0.mk ((by rw [hg]; exact bls_ : w.heap.size ≤ gb276)); have n4_ := Aside0.mk ((by rw [hg]; exact bls_ : w.heap.size ≤ gb276)); have n5_ := Aside0.mk ((by rw [hg]; exact Nat.ne_of_lt (blk_lt (g := gb272) (o := .cells #[.slice (some ad275) l0_0.length c0_0] 39 (0, 0)) (blw_ BK272)) : gb272 ≠ gb276)); have n6_ := Aside0.mk ((by rw [hg]; exact Nat.ne_of_gt (blk_lt (g := gb272) (o := .cells #[.slice (some ad275) l0_0.length c0_0] 39 (0, 0)) (blw_ BK272)) : gb276 ≠ gb272)); clear BK272; clear HB; have BK272 := n0_; have HB := n1_; have BK276 := n2_; have GW276 := n3_; have GE276 := n4_; have NB272_276 := n5_; have NB276_272 := n6_; clear n0_ n1_ n2_ n3_ n4_ n5_ n6_; clear hb hbox hg; have hnb24 := NB276_272.out; have hnc24 := NB272_276.out; have hcz25 := blk_cell BK276.out; have hfz25 := blk_frozen BK276.out))
                      have n0_ : Aside0 ((((((w23.setCell ⟨gb276, 0, none⟩ (.int .i64 ((rd_T105 l0_0 x4_1).f0))).setCell ⟨gb276, 1, none⟩ (.int .i64 ((rd_T105 l0_0 x4_1).f1.f0))).setCell ⟨gb276, 2, none⟩ (.int .i64 ((rd_T105 l0_0 x4_1).f1.f1))).setCell ⟨gb276, 3, none⟩ (.int .i64 ((rd_T105 l0_0 x4_1).f2))).setCell ⟨gb276, 4, none⟩ (.int .i64 ((rd_T105 l0_0 x4_1).f3))).heap[gb272]? = some (.cells #[.slice (some ad275) l0_0.length c0_0] 39 (0, 0))) := ⟨by (with_reducible repeat (first | refine blk_drewN ?_ _ | refine blk_drew ?_ | refine blk_alloc ?_ _)); refine blk_far ?_ NB272_276.out _; (with_reducible repeat (first | refine blk_drewN ?_ _ | refine blk_drew ?_ | refine blk_alloc ?_ _)); refine blk_far ?_ NB272_276.out _; (with_reducible repeat (first | refine blk_drewN ?_ _ | refine blk_drew ?_ | refine blk_alloc ?_ _)); refine blk_far ?_ NB272_276.out _; (with_reducible repeat (first | refine blk_drewN ?_ _ | refine blk_drew ?_ | refine blk_alloc ?_ _)); refine blk_far ?_ NB272_276.out _; (with_reducible repeat (first | refine blk_drewN ?_ _ | refine blk_drew ?_ | refine blk_alloc ?_ _)); refine blk_far ?_ NB272_276.out _; (with_reducible repeat (first | refine blk_drewN ?_ _ | refine blk_drew ?_ | refine blk_alloc ?_ _)); exact BK272.out⟩
                      have n1_ : Aside0 ((((((w23.setCell ⟨gb276, 0, none⟩ (.int .i64 ((rd_T105 l0_0 x4_1).f0))).setCell ⟨gb276, 1, none⟩ (.int .i64 ((rd_T105 l0_0 x4_1).f1.f0))).setCell ⟨gb276, 2, none⟩ (.int .i64 ((rd_T105 l0_0 x4_1).f1.f1))).setCell ⟨gb276, 3, none⟩ (.int .i64 ((rd_T105 l0_0 x4_1).f2))).setCell ⟨gb276, 4, none⟩ (.int .i64 ((rd_T105 l0_0 x4_1).f3))).heap[gb276]? = some (.cells #[.int .i64 ((rd_T105 l0_0 x4_1).f0), .int .i64 ((rd_T105 l0_0 x4_1).f1.f0), .int .i64 ((rd_T105 l0_0 x4_1).f1.f1), .int .i64 ((rd_T105 l0_0 x4_1).f2), .int .i64 ((rd_T105 l0_0 x4_1).f3)] 105 (0, 0))) := ⟨by (with_reducible repeat (first | refine blk_drewN ?_ _ | refine blk_drew ?_ | refine blk_alloc ?_ _)); refine blk_put (cs := #[.int .i64 ((rd_T105 l0_0 x4_1).f0), .int .i64 ((rd_T105 l0_0 x4_1).f1.f0), .int .i64 ((rd_T105 l0_0 x4_1).f1.f1), .int .i64 ((rd_T105 l0_0 x4_1).f2), .int .i64 0]) ?_ 4 _ rfl; (with_reducible repeat (first | refine blk_drewN ?_ _ | refine blk_drew ?_ | refine blk_alloc ?_ _)); refine blk_put (cs := #[.int .i64 ((rd_T105 l0_0 x4_1).f0), .int .i64 ((rd_T105 l0_0 x4_1).f1.f0), .int .i64 ((rd_T105 l0_0 x4_1).f1.f1), .int .i64 0, .int .i64 0]) ?_ 3 _ rfl; (with_reducible repeat (first | refine blk_drewN ?_ _ | refine blk_drew ?_ | refine blk_alloc ?_ _)); refine blk_put (cs := #[.int .i64 ((rd_T105 l0_0 x4_1).f0), .int .i64 ((rd_T105 l0_0 x4_1).f1.f0), .int .i64 0, .int .i64 0, .int .i64 0]) ?_ 2 _ rfl; (with_reducible repeat (first | refine blk_drewN ?_ _ | refine blk_drew ?_ | refine blk_alloc ?_ _)); refine blk_put (cs := #[.int .i64 ((rd_T105 l0_0 x4_1).f0), .int .i64 0, .int .i64 0, .int .i64 0, .int .i64 0]) ?_ 1 _ rfl; (with_reducible repeat (first | refine blk_drewN ?_ _ | refine blk_drew ?_ | refine blk_alloc ?_ _)); refine blk_put (cs := #[.int .i64 0, .int .i64 0, .int .i64 0, .int .i64 0, .int .i64 0]) ?_ 0 _ rfl; (with_reducible repeat (first | refine blk_drewN ?_ _ | refine blk_drew ?_ | refine blk_alloc ?_ _)); exact BK276.out⟩
                      have n2_ : Aside0 (Below w.heap.size w (((((w23.setCell ⟨gb276, 0, none⟩ (.int .i64 ((rd_T105 l0_0 x4_1).f0))).setCell ⟨gb276, 1, none⟩ (.int .i64 ((rd_T105 l0_0 x4_1).f1.f0))).setCell ⟨gb276, 2, none⟩ (.int .i64 ((rd_T105 l0_0 x4_1).f1.f1))).setCell ⟨gb276, 3, none⟩ (.int .i64 ((rd_T105 l0_0 x4_1).f2))).setCell ⟨gb276, 4, none⟩ (.int .i64 ((rd_T105 l0_0 x4_1).f3)))) := ⟨bl_⟩
                      (try clear BK272)
                      (try clear BK276)
                      (try clear HB)
                      generalize (((((w23.setCell ⟨gb276, 0, none⟩ (.int .i64 ((rd_T105 l0_0 x4_1).f0))).setCell ⟨gb276, 1, none⟩ (.int .i64 ((rd_T105 l0_0 x4_1).f1.f0))).setCell ⟨gb276, 2, none⟩ (.int .i64 ((rd_T105 l0_0 x4_1).f1.f1))).setCell ⟨gb276, 3, none⟩ (.int .i64 ((rd_T105 l0_0 x4_1).f2))).setCell ⟨gb276, 4, none⟩ (.int .i64 ((rd_T105 l0_0 x4_1).f3))) = w26 at n0_ n1_ n2_ ⊢
                      have BK272 := n0_
                      have BK276 := n1_
                      have HB := n2_
                      clear n0_ n1_ n2_
                      have n0_ := Aside0.mk (blk_drew BK272.out)
                      have n1_ := Aside0.mk (blk_drew BK276.out)
                      have n2_ := Aside0.mk (below_drew1 HB.out)
                      clear BK272
                      clear BK276
                      clear HB
                      have BK272 := n0_
                      have BK276 := n1_
                      have HB := n2_
                      clear n0_ n1_ n2_
                      refine start_ (n := 24) (S := fun w' => w'.cell? ⟨gb276, 0, none⟩ = some (.int .i64 ((rd_T105 l0_0 x4_1).f0)) ∧ w'.cell? ⟨gb276, 1, none⟩ = some (.int .i64 ((rd_T105 l0_0 x4_1).f1.f0)) ∧ w'.cell? ⟨gb276, 2, none⟩ = some (.int .i64 ((rd_T105 l0_0 x4_1).f1.f1)) ∧ w'.cell? ⟨gb276, 3, none⟩ = some (.int .i64 ((rd_T105 l0_0 x4_1).f2)) ∧ w'.cell? ⟨gb276, 4, none⟩ = some (.int .i64 ((rd_T105 l0_0 x4_1).f3))) (ds := []) #[false, false, false, false, false, false, false, false, false, false, false, false, false, false, false, false, false, false, false, false, false, false, false, false] (by kernel_rfl) rfl rfl ⟨(blk_cell BK276.out 0).trans rfl, (blk_cell BK276.out 1).trans rfl, (blk_cell BK276.out 2).trans rfl, (blk_cell BK276.out 3).trans rfl, (blk_cell BK276.out 4).trans rfl⟩ (fun hHeld => ?_); refine with_tabW spec_PolicyText.tab8 spec_PolicyText.bits8 (fun HT_ HW_ => ?_)
                      generalize w26.drew = w27 at BK272 BK276 HB hHeld ⊢
                      refine pure_ (i := 0) (N := some 25) (v := ?_) (a' := ?_) #[true, false, false, false, false, false, false, false, false, false, false, false, false, false, false, false, false, false, false, false, false, false, false, false] rfl rfl (any_of HT_.out (by kernel_rfl)) (fun _ _ _ h => h) (Or.inl ⟨by rfl, ?_⟩) ?_ ?_
                      rotate_left
                      · intro w'
                        go_simp
                        with_reducible rfl
                      rotate_left
                      · simp only [Act.put, List.setIfInBounds_toArray, List.set_cons_zero, List.set_cons_succ, i64_w, i32_w]
                        rfl
                      refine pure_ (i := 1) (N := some 26) (v := ?_) (a' := ?_) #[true, true, false, false, false, false, false, false, false, false, false, false, false, false, false, false, false, false, false, false, false, false, false, false] rfl rfl (any_of HT_.out (by kernel_rfl)) (fun _ _ _ h => h) (Or.inl ⟨by rfl, ?_⟩) ?_ ?_
                      rotate_left
                      · intro w'
                        go_simp
                        with_reducible rfl
                      rotate_left
                      · simp only [Act.put, List.setIfInBounds_toArray, List.set_cons_zero, List.set_cons_succ, i64_w, i32_w]
                        rfl
                      refine pure_ (i := 5) (N := some 30) (v := ?_) (a' := ?_) #[true, true, false, false, false, true, false, false, false, false, false, false, false, false, false, false, false, false, false, false, false, false, false, false] rfl rfl (any_of HT_.out (by kernel_rfl)) (fun _ _ _ h => h) (Or.inl ⟨by rfl, ?_⟩) ?_ ?_
                      rotate_left
                      · intro w'
                        go_simp
                        with_reducible rfl
                      rotate_left
                      · simp only [Act.put, List.setIfInBounds_toArray, List.set_cons_zero, List.set_cons_succ, i64_w, i32_w]
                        rfl
                      refine pure_ (i := 6) (N := some 31) (v := ?_) (a' := ?_) #[true, true, false, false, false, true, true, false, false, false, false, false, false, false, false, false, false, false, false, false, false, false, false, false] rfl rfl (any_of HT_.out (by kernel_rfl)) (fun _ _ _ h => h) (Or.inl ⟨by rfl, ?_⟩) ?_ ?_
                      rotate_left
                      · intro w'
                        go_simp
                        with_reducible rfl
                      rotate_left
                      · simp only [Act.put, List.setIfInBounds_toArray, List.set_cons_zero, List.set_cons_succ, i64_w, i32_w]
                        rfl
                      refine pure_ (i := 10) (N := some 35) (v := ?_) (a' := ?_) #[true, true, false, false, false, true, true, false, false, false, true, false, false, false, false, false, false, false, false, false, false, false, false, false] rfl rfl (any_of HT_.out (by kernel_rfl)) (fun _ _ _ h => h) (Or.inl ⟨by rfl, ?_⟩) ?_ ?_
                      rotate_left
                      · intro w'
                        go_simp
                        with_reducible rfl
                      rotate_left
                      · simp only [Act.put, List.setIfInBounds_toArray, List.set_cons_zero, List.set_cons_succ, i64_w, i32_w]
                        rfl
                      refine pure_ (i := 11) (N := some 36) (v := ?_) (a' := ?_) #[true, true, false, false, false, true, true, false, false, false, true, true, false, false, false, false, false, false, false, false, false, false, false, false] rfl rfl (any_of HT_.out (by kernel_rfl)) (fun _ _ _ h => h) (Or.inl ⟨by rfl, ?_⟩) ?_ ?_
                      rotate_left
                      · intro w'
                        go_simp
                        with_reducible rfl
                      rotate_left
                      · simp only [Act.put, List.setIfInBounds_toArray, List.set_cons_zero, List.set_cons_succ, i64_w, i32_w]
                        rfl
                      refine pure_ (i := 15) (N := some 40) (v := ?_) (a' := ?_) #[true, true, false, false, false, true, true, false, false, false, true, true, false, false, false, true, false, false, false, false, false, false, false, false] rfl rfl (any_of HT_.out (by kernel_rfl)) (fun _ _ _ h => h) (Or.inl ⟨by rfl, ?_⟩) ?_ ?_
                      rotate_left
                      · intro w'
                        go_simp
                        with_reducible rfl
                      rotate_left
                      · simp only [Act.put, List.setIfInBounds_toArray, List.set_cons_zero, List.set_cons_succ, i64_w, i32_w]
                        rfl
                      refine pure_ (i := 19) (N := some 44) (v := ?_) (a' := ?_) #[true, true, false, false, false, true, true, false, false, false, true, true, false, false, false, true, false, false, false, true, false, false, false, false] rfl rfl (any_of HT_.out (by kernel_rfl)) (fun _ _ _ h => h) (Or.inl ⟨by rfl, ?_⟩) ?_ ?_
                      rotate_left
                      · intro w'
                        go_simp
                        with_reducible rfl
                      rotate_left
                      · simp only [Act.put, List.setIfInBounds_toArray, List.set_cons_zero, List.set_cons_succ, i64_w, i32_w]
                        rfl
                      refine take_ (i := 2) (N := some 27) (v := ?_) (a' := ?_) #[true, true, true, false, false, true, true, false, false, false, true, true, false, false, false, true, false, false, false, true, false, false, false, false] rfl rfl (take_ofW HT_.out HW_.out (by kernel_rfl)) (fun _ _ _ h => h) (Or.inl ⟨by rfl, ?_⟩) hHeld ?_ ?_
                      rotate_left
                      · rintro w' ⟨s0, s1, s2, s3, s4⟩
                        go_simp
                        with_reducible rfl
                      rotate_left
                      · simp only [Act.put, List.setIfInBounds_toArray, List.set_cons_zero, List.set_cons_succ, i64_w, i32_w]
                        rfl
                      refine take_ (i := 7) (N := some 32) (v := ?_) (a' := ?_) #[true, true, true, false, false, true, true, true, false, false, true, true, false, false, false, true, false, false, false, true, false, false, false, false] rfl rfl (take_ofW HT_.out HW_.out (by kernel_rfl)) (fun _ _ _ h => h) (Or.inl ⟨by rfl, ?_⟩) hHeld ?_ ?_
                      rotate_left
                      · rintro w' ⟨s0, s1, s2, s3, s4⟩
                        go_simp
                        with_reducible rfl
                      rotate_left
                      · simp only [Act.put, List.setIfInBounds_toArray, List.set_cons_zero, List.set_cons_succ, i64_w, i32_w]
                        rfl
                      refine take_ (i := 12) (N := some 37) (v := ?_) (a' := ?_) #[true, true, true, false, false, true, true, true, false, false, true, true, true, false, false, true, false, false, false, true, false, false, false, false] rfl rfl (take_ofW HT_.out HW_.out (by kernel_rfl)) (fun _ _ _ h => h) (Or.inl ⟨by rfl, ?_⟩) hHeld ?_ ?_
                      rotate_left
                      · rintro w' ⟨s0, s1, s2, s3, s4⟩
                        go_simp
                        with_reducible rfl
                      rotate_left
                      · simp only [Act.put, List.setIfInBounds_toArray, List.set_cons_zero, List.set_cons_succ, i64_w, i32_w]
                        rfl
                      refine take_ (i := 16) (N := some 41) (v := ?_) (a' := ?_) #[true, true, true, false, false, true, true, true, false, false, true, true, true, false, false, true, true, false, false, true, false, false, false, false] rfl rfl (take_ofW HT_.out HW_.out (by kernel_rfl)) (fun _ _ _ h => h) (Or.inl ⟨by rfl, ?_⟩) hHeld ?_ ?_
                      rotate_left
                      · rintro w' ⟨s0, s1, s2, s3, s4⟩
                        go_simp
                        with_reducible rfl
                      rotate_left
                      · simp only [Act.put, List.setIfInBounds_toArray, List.set_cons_zero, List.set_cons_succ, i64_w, i32_w]
                        rfl
                      refine take_ (i := 20) (N := some 45) (v := ?_) (a' := ?_) #[true, true, true, false, false, true, true, true, false, false, true, true, true, false, false, true, true, false, false, true, true, false, false, false] rfl rfl (take_ofW HT_.out HW_.out (by kernel_rfl)) (fun _ _ _ h => h) (Or.inl ⟨by rfl, ?_⟩) hHeld ?_ ?_
                      rotate_left
                      · rintro w' ⟨s0, s1, s2, s3, s4⟩
                        go_simp
                        with_reducible rfl
                      rotate_left
                      · simp only [Act.put, List.setIfInBounds_toArray, List.set_cons_zero, List.set_cons_succ, i64_w, i32_w]
                        rfl
                      refine one_ (i := 3) (N := some 28) #[true, true, true, true, false, true, true, true, false, false, true, true, true, false, false, true, true, false, false, true, true, false, false, false] rfl rfl (one_of HT_.out (by kernel_rfl)) (by decide) (fun K hK => ?_)
                      refine goes_ Try.func82 (by kernel_rfl) rfl #[.int .i64 ((rd_T105 l0_0 x4_1).f0)] (by rfl) rfl rfl (by (try simp only [List.map_toArray, List.map_cons, List.map_nil]); first | done | rfl | (simp only [List.length_drop, List.length_take]; rfl)) ?_
                      with_reducible refine (spec_l01Var.calls k1 ((rd_T105 l0_0 x4_1).f0) t277 _ A12.out).mono ?_
                      rintro e w28 ⟨rfl, hb⟩
                      refine ⟨_, rfl, ?_⟩
                      have n0_ := Aside0.mk (blk_below (g := gb272) (o := .cells #[.slice (some ad275) l0_0.length c0_0] 39 (0, 0)) (blw_ BK272) hb)
                      have n1_ := Aside0.mk (blk_below (g := gb276) (o := .cells #[.int .i64 ((rd_T105 l0_0 x4_1).f0), .int .i64 ((rd_T105 l0_0 x4_1).f1.f0), .int .i64 ((rd_T105 l0_0 x4_1).f1.f1), .int .i64 ((rd_T105 l0_0 x4_1).f2), .int .i64 ((rd_T105 l0_0 x4_1).f3)] 105 (0, 0)) (blw_ BK276) hb)
                      have n2_ := Aside0.mk (below_step bl_ hb)
                      clear BK272
                      clear BK276
                      clear HB
                      have BK272 := n0_
                      have BK276 := n1_
                      have HB := n2_
                      clear n0_ n1_ n2_
                      (try clear hb)
                      (try clear hb2)
                      (try clear hk)
                      (try clear hi)
                      refine hK.out _ _ ⟨(blk_cell BK276.out 0).trans rfl, (blk_cell BK276.out 1).trans rfl, (blk_cell BK276.out 2).trans rfl, (blk_cell BK276.out 3).trans rfl, (blk_cell BK276.out 4).trans rfl⟩ (fun hHeld => ?_)
                      clear hK K
                      refine norm_ (a' := ?_) ?_ ?_
                      rotate_left
                      · show Act.put _ (some 28) _ = _
                        simp only [Act.put, List.setIfInBounds_toArray, List.set_cons_zero, List.set_cons_succ, i64_w, i32_w]
                        rfl
                      refine pure_ (i := 4) (N := some 29) (v := ?_) (a' := ?_) #[true, true, true, true, true, true, true, true, false, false, true, true, true, false, false, true, true, false, false, true, true, false, false, false] rfl rfl (any_of HT_.out (by kernel_rfl)) (fun _ _ _ h => h) (Or.inl ⟨by rfl, ?_⟩) ?_ ?_
                      rotate_left
                      · intro w'
                        go_simp
                        with_reducible rfl
                      rotate_left
                      · simp only [Act.put, List.setIfInBounds_toArray, List.set_cons_zero, List.set_cons_succ, i64_w, i32_w]
                        rfl
                      refine one_ (i := 8) (N := some 33) #[true, true, true, true, true, true, true, true, true, false, true, true, true, false, false, true, true, false, false, true, true, false, false, false] rfl rfl (one_of HT_.out (by kernel_rfl)) (by decide) (fun K hK => ?_)
                      refine goes_ Try.func82 (by kernel_rfl) rfl #[.int .i64 ((rd_T105 l0_0 x4_1).f1.f0)] (by rfl) rfl rfl (by (try simp only [List.map_toArray, List.map_cons, List.map_nil]); first | done | rfl | (simp only [List.length_drop, List.length_take]; rfl)) ?_
                      with_reducible refine (spec_l01Var.calls k1 ((rd_T105 l0_0 x4_1).f1.f0) t278 _ A14.out).mono ?_
                      rintro e w29 ⟨rfl, hb⟩
                      refine ⟨_, rfl, ?_⟩
                      have n0_ := Aside0.mk (blk_below (g := gb272) (o := .cells #[.slice (some ad275) l0_0.length c0_0] 39 (0, 0)) (blw_ BK272) hb)
                      have n1_ := Aside0.mk (blk_below (g := gb276) (o := .cells #[.int .i64 ((rd_T105 l0_0 x4_1).f0), .int .i64 ((rd_T105 l0_0 x4_1).f1.f0), .int .i64 ((rd_T105 l0_0 x4_1).f1.f1), .int .i64 ((rd_T105 l0_0 x4_1).f2), .int .i64 ((rd_T105 l0_0 x4_1).f3)] 105 (0, 0)) (blw_ BK276) hb)
                      have n2_ := Aside0.mk (below_step bl_ hb)
                      clear BK272
                      clear BK276
                      clear HB
                      have BK272 := n0_
                      have BK276 := n1_
                      have HB := n2_
                      clear n0_ n1_ n2_
                      (try clear hb)
                      (try clear hb2)
                      (try clear hk)
                      (try clear hi)
                      refine hK.out _ _ ⟨(blk_cell BK276.out 0).trans rfl, (blk_cell BK276.out 1).trans rfl, (blk_cell BK276.out 2).trans rfl, (blk_cell BK276.out 3).trans rfl, (blk_cell BK276.out 4).trans rfl⟩ (fun hHeld => ?_)
                      clear hK K
                      refine norm_ (a' := ?_) ?_ ?_
                      rotate_left
                      · show Act.put _ (some 33) _ = _
                        simp only [Act.put, List.setIfInBounds_toArray, List.set_cons_zero, List.set_cons_succ, i64_w, i32_w]
                        rfl
                      refine pure_ (i := 9) (N := some 34) (v := ?_) (a' := ?_) #[true, true, true, true, true, true, true, true, true, true, true, true, true, false, false, true, true, false, false, true, true, false, false, false] rfl rfl (any_of HT_.out (by kernel_rfl)) (fun _ _ _ h => h) (Or.inl ⟨by rfl, ?_⟩) ?_ ?_
                      rotate_left
                      · intro w'
                        go_simp
                        with_reducible rfl
                      rotate_left
                      · simp only [Act.put, List.setIfInBounds_toArray, List.set_cons_zero, List.set_cons_succ, i64_w, i32_w]
                        rfl
                      refine one_ (i := 13) (N := some 38) #[true, true, true, true, true, true, true, true, true, true, true, true, true, true, false, true, true, false, false, true, true, false, false, false] rfl rfl (one_of HT_.out (by kernel_rfl)) (by decide) (fun K hK => ?_)
                      refine goes_ Try.func82 (by kernel_rfl) rfl #[.int .i64 ((rd_T105 l0_0 x4_1).f1.f1)] (by rfl) rfl rfl (by (try simp only [List.map_toArray, List.map_cons, List.map_nil]); first | done | rfl | (simp only [List.length_drop, List.length_take]; rfl)) ?_
                      with_reducible refine (spec_l01Var.calls k1 ((rd_T105 l0_0 x4_1).f1.f1) t279 _ A16.out).mono ?_
                      rintro e w30 ⟨rfl, hb⟩
                      refine ⟨_, rfl, ?_⟩
                      have n0_ := Aside0.mk (blk_below (g := gb272) (o := .cells #[.slice (some ad275) l0_0.length c0_0] 39 (0, 0)) (blw_ BK272) hb)
                      have n1_ := Aside0.mk (blk_below (g := gb276) (o := .cells #[.int .i64 ((rd_T105 l0_0 x4_1).f0), .int .i64 ((rd_T105 l0_0 x4_1).f1.f0), .int .i64 ((rd_T105 l0_0 x4_1).f1.f1), .int .i64 ((rd_T105 l0_0 x4_1).f2), .int .i64 ((rd_T105 l0_0 x4_1).f3)] 105 (0, 0)) (blw_ BK276) hb)
                      have n2_ := Aside0.mk (below_step bl_ hb)
                      clear BK272
                      clear BK276
                      clear HB
                      have BK272 := n0_
                      have BK276 := n1_
                      have HB := n2_
                      clear n0_ n1_ n2_
                      (try clear hb)
                      (try clear hb2)
                      (try clear hk)
                      (try clear hi)
                      refine hK.out _ _ ⟨(blk_cell BK276.out 0).trans rfl, (blk_cell BK276.out 1).trans rfl, (blk_cell BK276.out 2).trans rfl, (blk_cell BK276.out 3).trans rfl, (blk_cell BK276.out 4).trans rfl⟩ (fun hHeld => ?_)
                      clear hK K
                      refine norm_ (a' := ?_) ?_ ?_
                      rotate_left
                      · show Act.put _ (some 38) _ = _
                        simp only [Act.put, List.setIfInBounds_toArray, List.set_cons_zero, List.set_cons_succ, i64_w, i32_w]
                        rfl
                      refine pure_ (i := 14) (N := some 39) (v := ?_) (a' := ?_) #[true, true, true, true, true, true, true, true, true, true, true, true, true, true, true, true, true, false, false, true, true, false, false, false] rfl rfl (any_of HT_.out (by kernel_rfl)) (fun _ _ _ h => h) (Or.inl ⟨by rfl, ?_⟩) ?_ ?_
                      rotate_left
                      · intro w'
                        go_simp
                        with_reducible rfl
                      rotate_left
                      · simp only [Act.put, List.setIfInBounds_toArray, List.set_cons_zero, List.set_cons_succ, i64_w, i32_w]
                        rfl
                      refine one_ (i := 17) (N := some 42) #[true, true, true, true, true, true, true, true, true, true, true, true, true, true, true, true, true, true, false, true, true, false, false, false] rfl rfl (one_of HT_.out (by kernel_rfl)) (by decide) (fun K hK => ?_)
                      refine goes_ Try.func82 (by kernel_rfl) rfl #[.int .i64 ((rd_T105 l0_0 x4_1).f2)] (by rfl) rfl rfl (by (try simp only [List.map_toArray, List.map_cons, List.map_nil]); first | done | rfl | (simp only [List.length_drop, List.length_take]; rfl)) ?_
                      with_reducible refine (spec_l01Var.calls k1 ((rd_T105 l0_0 x4_1).f2) t280 _ A18.out).mono ?_
                      rintro e w31 ⟨rfl, hb⟩
                      refine ⟨_, rfl, ?_⟩
                      have n0_ := Aside0.mk (blk_below (g := gb272) (o := .cells #[.slice (some ad275) l0_0.length c0_0] 39 (0, 0)) (blw_ BK272) hb)
                      have n1_ := Aside0.mk (blk_below (g := gb276) (o := .cells #[.int .i64 ((rd_T105 l0_0 x4_1).f0), .int .i64 ((rd_T105 l0_0 x4_1).f1.f0), .int .i64 ((rd_T105 l0_0 x4_1).f1.f1), .int .i64 ((rd_T105 l0_0 x4_1).f2), .int .i64 ((rd_T105 l0_0 x4_1).f3)] 105 (0, 0)) (blw_ BK276) hb)
                      have n2_ := Aside0.mk (below_step bl_ hb)
                      clear BK272
                      clear BK276
                      clear HB
                      have BK272 := n0_
                      have BK276 := n1_
                      have HB := n2_
                      clear n0_ n1_ n2_
                      (try clear hb)
                      (try clear hb2)
                      (try clear hk)
                      (try clear hi)
                      refine hK.out _ _ ⟨(blk_cell BK276.out 0).trans rfl, (blk_cell BK276.out 1).trans rfl, (blk_cell BK276.out 2).trans rfl, (blk_cell BK276.out 3).trans rfl, (blk_cell BK276.out 4).trans rfl⟩ (fun hHeld => ?_)
                      clear hK K
                      refine norm_ (a' := ?_) ?_ ?_
                      rotate_left
                      · show Act.put _ (some 42) _ = _
                        simp only [Act.put, List.setIfInBounds_toArray, List.set_cons_zero, List.set_cons_succ, i64_w, i32_w]
                        rfl
                      refine pure_ (i := 18) (N := some 43) (v := ?_) (a' := ?_) #[true, true, true, true, true, true, true, true, true, true, true, true, true, true, true, true, true, true, true, true, true, false, false, false] rfl rfl (any_of HT_.out (by kernel_rfl)) (fun _ _ _ h => h) (Or.inl ⟨by rfl, ?_⟩) ?_ ?_
                      rotate_left
                      · intro w'
                        go_simp
                        with_reducible rfl
                      rotate_left
                      · simp only [Act.put, List.setIfInBounds_toArray, List.set_cons_zero, List.set_cons_succ, i64_w, i32_w]
                        rfl
                      refine one_ (i := 21) (N := some 46) #[true, true, true, true, true, true, true, true, true, true, true, true, true, true, true, true, true, true, true, true, true, true, false, false] rfl rfl (one_of HT_.out (by kernel_rfl)) (by decide) (fun K hK => ?_)
                      refine goes_ Try.func82 (by kernel_rfl) rfl #[.int .i64 ((rd_T105 l0_0 x4_1).f3)] (by rfl) rfl rfl (by (try simp only [List.map_toArray, List.map_cons, List.map_nil]); first | done | rfl | (simp only [List.length_drop, List.length_take]; rfl)) ?_
                      with_reducible refine (spec_l01Var.calls k1 ((rd_T105 l0_0 x4_1).f3) t281 _ A20.out).mono ?_
                      rintro e w32 ⟨rfl, hb⟩
                      refine ⟨_, rfl, ?_⟩
                      have n0_ := Aside0.mk (blk_below (g := gb272) (o := .cells #[.slice (some ad275) l0_0.length c0_0] 39 (0, 0)) (blw_ BK272) hb)
                      have n1_ := Aside0.mk (blk_below (g := gb276) (o := .cells #[.int .i64 ((rd_T105 l0_0 x4_1).f0), .int .i64 ((rd_T105 l0_0 x4_1).f1.f0), .int .i64 ((rd_T105 l0_0 x4_1).f1.f1), .int .i64 ((rd_T105 l0_0 x4_1).f2), .int .i64 ((rd_T105 l0_0 x4_1).f3)] 105 (0, 0)) (blw_ BK276) hb)
                      have n2_ := Aside0.mk (below_step bl_ hb)
                      clear BK272
                      clear BK276
                      clear HB
                      have BK272 := n0_
                      have BK276 := n1_
                      have HB := n2_
                      clear n0_ n1_ n2_
                      (try clear hb)
                      (try clear hb2)
                      (try clear hk)
                      (try clear hi)
                      refine hK.out _ _ ⟨(blk_cell BK276.out 0).trans rfl, (blk_cell BK276.out 1).trans rfl, (blk_cell BK276.out 2).trans rfl, (blk_cell BK276.out 3).trans rfl, (blk_cell BK276.out 4).trans rfl⟩ (fun hHeld => ?_)
                      clear hK K
                      refine norm_ (a' := ?_) ?_ ?_
                      rotate_left
                      · show Act.put _ (some 46) _ = _
                        simp only [Act.put, List.setIfInBounds_toArray, List.set_cons_zero, List.set_cons_succ, i64_w, i32_w]
                        rfl
                      refine pure_ (i := 22) (N := some 47) (v := ?_) (a' := ?_) #[true, true, true, true, true, true, true, true, true, true, true, true, true, true, true, true, true, true, true, true, true, true, true, false] rfl rfl (any_of HT_.out (by kernel_rfl)) (fun _ _ _ h => h) (Or.inl ⟨by rfl, ?_⟩) ?_ ?_
                      rotate_left
                      · intro w'
                        go_simp
                        with_reducible rfl
                      rotate_left
                      · simp only [Act.put, List.setIfInBounds_toArray, List.set_cons_zero, List.set_cons_succ, i64_w, i32_w]
                        rfl
                      refine pure_ (i := 23) (N := some 3) (v := ?_) (a' := ?_) #[true, true, true, true, true, true, true, true, true, true, true, true, true, true, true, true, true, true, true, true, true, true, true, true] rfl rfl (any_of HT_.out (by kernel_rfl)) (fun _ _ _ h => h) (Or.inl ⟨by rfl, ?_⟩) ?_ ?_
                      rotate_left
                      · intro w'
                        go_simp
                        with_reducible rfl
                      rotate_left
                      · simp only [Act.put, List.setIfInBounds_toArray, List.set_cons_zero, List.set_cons_succ, i64_w, i32_w]
                        rfl
                      refine done_ (done_of HT_.out (by kernel_rfl)) ?_
                      try go_wp2
                      go_roundg k1
                      case measure => have := HK1.out; omega
                      case rel => exact ⟨(((((x3_1 ++ t277) ++ t278) ++ t279) ++ t280) ++ t281), (wrap64 (x4_1 + 1)), (by first | rfl | (simp; done) | (simp [*]; done)), (by first | rfl | (simp; done) | (simp [*]; done)), H', ⟨by have := HK1.out; omega⟩, ⟨by (with_reducible repeat (first | refine blk_drewN ?_ _ | refine blk_drew ?_ | refine blk_alloc ?_ _)); exact BK272.out⟩, ⟨bl_⟩⟩
                    · rw [if_neg c21] at H
                      exact absurd H (by simp)
                  · rw [if_neg c19] at H
                    exact absurd H (by simp)
                · rw [if_neg c17] at H
                  exact absurd H (by simp)
              · rw [if_neg c15] at H
                exact absurd H (by simp)
            · rw [if_neg c13] at H
              exact absurd H (by simp)
          · rw [if_neg c11] at H
            exact absurd H (by simp)
        · rw [if_neg c10] at H
          have c10b0 : decide (x4_1 < (l0_0.length : Int)) = false := decide_eq_false c10
          clear c10
          obtain rfl := Option.some.inj H
          have hcz33 := blk_cell BK272.out
          have hfz33 := blk_frozen BK272.out
          go_wp2
          go_ret
          exact ⟨by first | rfl | (simp [errW_none, errW_some] <;> rfl) | (simp [*, errW_none, errW_some] <;> rfl), bl_⟩
  · replace c3 := Bool.eq_false_iff.mpr c3
    subst c3
    replace H := ite_f_ H
    obtain rfl := Option.some.inj H
    go_enter Try.func23, Try.ntmps23
    go_wp2_with (first | ((with_reducible refine gate_dst (N := 1) rfl ?_); refine box_event ?hg (N := 1) ?hd (cs := #[.slice A0_0 l0_0.length c0_0]) (t := 39) ?hr ?_; (case hd => rfl); (case hg => rfl); (case hr => first | (go_simp; done) | (go_simp; rfl)); intro gb272 hg w34 hbox hb; have n0_ := Aside0.mk (below_step bl_ hb); have n1_ := Aside0.mk (hbox); have n2_ := Aside0.mk ((by rw [hg]; exact bls_ : w.heap.size ≤ gb272)); have n3_ := Aside0.mk ((by rw [hg]; exact bls_ : w.heap.size ≤ gb272)); clear HB; have HB := n0_; have BK272 := n1_; have GW272 := n2_; have GE272 := n3_; clear n0_ n1_ n2_ n3_; clear hb hbox hg; have hcz35 := blk_cell BK272.out; have hfz35 := blk_frozen BK272.out) | ((with_reducible refine gate_callee (f := 19) rfl ?_); refine goesL_ (some 7) rfl rfl Try.func19 (by kernel_rfl) rfl #[.agg #[.slice A0_0 l0_0.length c0_0]] rfl (by (try simp only [List.map_toArray, List.map_cons, List.map_nil]); first | done | rfl | (simp only [List.length_drop, List.length_take]; rfl)) ?_; (with_reducible refine (spec_PolicyOk.calls k _ _ l0_0 false _ ?side1 ?side2 A2.out).mono ?_); (case side1 => repeat (first | exact (Kd.C_below HR0_0.out HB.out) | (with_reducible refine Kd.C_alloc ?_ _) | (with_reducible refine Kd.C_drewN ?_ _) | (with_reducible refine Kd.C_drew ?_))); (case side2 => exact HC0_0.out); rintro e w36 ⟨rfl, hb⟩; refine ⟨_, rfl, ?_⟩; have n0_ := Aside0.mk (blk_below (g := gb272) (o := .cells #[.slice A0_0 l0_0.length c0_0] 39 (0, 0)) (blw_ BK272) hb); have n1_ := Aside0.mk (below_step bl_ hb); clear BK272; clear HB; have BK272 := n0_; have HB := n1_; clear n0_ n1_; (try clear hb); (try clear hb2); (try clear hk); (try clear hi)))
    go_ret
    exact ⟨by first | rfl | (simp [errW_none, errW_some] <;> rfl) | (simp [*, errW_none, errW_some] <;> rfl), bl_⟩

/-! ### impl_PolicyText: function 24 -/
def impl_PolicyText.l0 : Nat → ByteArray → List (S105) → Int → Int → Option (ByteArray)
  | 0, _, _, _, _ => none
  | k + 1, x3, x14, x15, x16 => if x16 < x15 then (if 0 ≤ x16 then (if x16 < (x14.length : Int) then ((impl_varText.f k ((rd_T105 x14 x16).f0)).bind fun t287 => ((impl_varText.f k ((rd_T105 x14 x16).f1.f0)).bind fun t288 => (if t287.size + t288.size ≤ 9223372036854775807 then ((impl_varText.f k ((rd_T105 x14 x16).f1.f1)).bind fun t289 => (if (t287 ++ t288).size + t289.size ≤ 9223372036854775807 then ((impl_varText.f k ((rd_T105 x14 x16).f2)).bind fun t290 => (if ((t287 ++ t288) ++ t289).size + t290.size ≤ 9223372036854775807 then ((impl_varText.f k ((rd_T105 x14 x16).f3)).bind fun t291 => (if (((t287 ++ t288) ++ t289) ++ t290).size + t291.size ≤ 9223372036854775807 then (if x3.size + ((((t287 ++ t288) ++ t289) ++ t290) ++ t291).size ≤ 9223372036854775807 then (impl_PolicyText.l0 k (x3 ++ ((((t287 ++ t288) ++ t289) ++ t290) ++ t291)) x14 x15 (wrap64 (x16 + 1))) else (none)) else (none))) else (none))) else (none))) else (none)))) else (none)) else (none)) else (some x3)
def impl_PolicyText.f (k : Nat) (l0_0 : List (S105)) : Option (ByteArray) := (impl_PolicyOk.f k l0_0).bind fun t283 => (if t283 = true then ((impl_varText.f k (l0_0.length : Int)).bind fun t284 => (impl_PolicyText.l0 k t284 l0_0 (l0_0.length : Int) 0)) else (some (⟨#[]⟩ : ByteArray)))
theorem impl_PolicyText.mono_l : ∀ k, (∀ y0 y1 y2 y3, LeO (impl_PolicyText.l0 k y0 y1 y2 y3) (impl_PolicyText.l0 (k + 1) y0 y1 y2 y3))
  | 0 => fun _ _ _ _ r h => by simp [impl_PolicyText.l0] at h
  | k + 1 => by
    have ih0 := impl_PolicyText.mono_l k
    · intro y0 y1 y2 y3
      unfold impl_PolicyText.l0
      repeat' first
      | (with_reducible exact ih0 _ _ _ _)
      | (with_reducible exact impl_PolicyOk.mono _ _)
      | (with_reducible exact impl_varText.mono _ _)
      | (with_reducible exact LeO.refl _)
      | (with_reducible exact LeO.none _)
      | (with_reducible refine LeO.ite ?_ ?_)
      | (with_reducible refine LeO.bind ?_ (fun _ => ?_))
      | exact ih0 _ _ _ _
      | exact impl_PolicyOk.mono _ _
      | exact impl_varText.mono _ _
      | exact LeO.none _
      | refine LeO.ite ?_ ?_
      | refine LeO.bind ?_ (fun _ => ?_)
theorem impl_PolicyText.mono : ∀ a0 k, LeO (impl_PolicyText.f k a0) (impl_PolicyText.f (k + 1) a0) := by
  intro a0 k
  have ih0 := impl_PolicyText.mono_l k
  unfold impl_PolicyText.f
  repeat' first
      | (with_reducible exact ih0 _ _ _ _)
      | (with_reducible exact impl_PolicyOk.mono _ _)
      | (with_reducible exact impl_varText.mono _ _)
      | (with_reducible exact LeO.refl _)
      | (with_reducible exact LeO.none _)
      | (with_reducible refine LeO.ite ?_ ?_)
      | (with_reducible refine LeO.bind ?_ (fun _ => ?_))
      | exact ih0 _ _ _ _
      | exact impl_PolicyOk.mono _ _
      | exact impl_varText.mono _ _
      | exact LeO.none _
      | refine LeO.ite ?_ ?_
      | refine LeO.bind ?_ (fun _ => ?_)
def impl_PolicyText.T7 : Bool × List (List Nat × List Nat) := (true, [([], []), ([], []), ([1], [1]), ([2], [2]), ([], []), ([4], [4]), ([5], [5]), ([6, 3], [6]), ([3, 7], [3, 7]), ([], []), ([9], [9]), ([10], [10]), ([11, 7], [11]), ([8, 12], [8, 12]), ([], []), ([14], [14]), ([15, 12], [15]), ([13, 16], [13, 16]), ([], []), ([18], [18]), ([19, 16], [19]), ([17, 20], [17, 20]), ([0, 21], [0, 21]), ([22, 20, 0, 1, 2, 3, 4, 5, 6, 7, 8, 9, 10, 11, 12, 13, 14, 15, 16, 17, 18, 19, 20, 21, 22], [0, 22])])
def impl_PolicyText.B7 : List Nat := [0, 0, 2, 6, 0, 16, 48, 126, 254, 0, 512, 1536, 3838, 8190, 0, 16384, 57086, 131070, 0, 262144, 909054, 2097150, 4194303, 8388607]
theorem impl_PolicyText.tab7 : rtab .any (opsOf Try.f24 7) = impl_PolicyText.T7 := by kernel_rfl
theorem impl_PolicyText.bits7 : waitsOk impl_PolicyText.T7.2 impl_PolicyText.B7 = true := by kernel_rfl
set_option maxHeartbeats 8000000 in
set_option maxRecDepth 100000 in
theorem impl_PolicyText.calls (k : Nat) (A0_0 : Option Addr) (c0_0 : Nat) (l0_0 : List (S105)) (r : ByteArray) (w : World) (hr0_0 : Kd.C k105 w A0_0 l0_0.length l0_0) (hc0_0 : l0_0.length ≤ c0_0) (h : impl_PolicyText.f k l0_0 = some r) :
    Calls Try.prog 24 #[.agg #[.slice A0_0 l0_0.length c0_0]] w fun e w' => e = .returned (.string r) ∧ Below w.heap.size w w' := by
  have hu39 := Try.underlying39
  have hu105 := Try.underlying105
  have HR0_0 := Aside0.mk hr0_0
  have HC0_0 := Aside0.mk hc0_0
  clear hr0_0 hc0_0
  have HB := Aside0.mk (Below.refl w.heap.size w)
  have H : ((impl_PolicyOk.f k l0_0).bind fun t283 => (if t283 = true then ((impl_varText.f k (l0_0.length : Int)).bind fun t284 => (impl_PolicyText.l0 k t284 l0_0 (l0_0.length : Int) 0)) else (some (⟨#[]⟩ : ByteArray)))) = some r := h
  clear h
  obtain ⟨t283, A2, H⟩ := bindE_ H
  by_cases c3 : t283 = true
  · subst c3
    replace H := ite_t_ H
    obtain ⟨t284, A4, H⟩ := bindE_ H
    have H' := Aside0.mk H
    clear H
    go_enter Try.func24, Try.ntmps24
    go_wp2_with (first | ((with_reducible refine gate_dst (N := 1) rfl ?_); refine box_event ?hg (N := 1) ?hd (cs := #[.slice A0_0 l0_0.length c0_0]) (t := 39) ?hr ?_; (case hd => rfl); (case hg => rfl); (case hr => first | (go_simp; done) | (go_simp; rfl)); intro gb282 hg w5 hbox hb; have n0_ := Aside0.mk (below_step bl_ hb); have n1_ := Aside0.mk (hbox); have n2_ := Aside0.mk ((by rw [hg]; exact bls_ : w.heap.size ≤ gb282)); have n3_ := Aside0.mk ((by rw [hg]; exact bls_ : w.heap.size ≤ gb282)); clear HB; have HB := n0_; have BK282 := n1_; have GW282 := n2_; have GE282 := n3_; clear n0_ n1_ n2_ n3_; clear hb hbox hg; have hcz6 := blk_cell BK282.out; have hfz6 := blk_frozen BK282.out) | ((with_reducible refine gate_callee (f := 21) rfl ?_); refine goesL_ (some 7) rfl rfl Try.func21 (by kernel_rfl) rfl #[.agg #[.slice A0_0 l0_0.length c0_0]] rfl (by (try simp only [List.map_toArray, List.map_cons, List.map_nil]); first | done | rfl | (simp only [List.length_drop, List.length_take]; rfl)) ?_; (with_reducible refine (impl_PolicyOk.calls k _ _ l0_0 true _ ?side1 ?side2 A2.out).mono ?_); (case side1 => repeat (first | exact (Kd.C_below HR0_0.out HB.out) | (with_reducible refine Kd.C_alloc ?_ _) | (with_reducible refine Kd.C_drewN ?_ _) | (with_reducible refine Kd.C_drew ?_))); (case side2 => exact HC0_0.out); rintro e w7 ⟨rfl, hb⟩; refine ⟨_, rfl, ?_⟩; have n0_ := Aside0.mk (blk_below (g := gb282) (o := .cells #[.slice A0_0 l0_0.length c0_0] 39 (0, 0)) (blw_ BK282) hb); have n1_ := Aside0.mk (below_step bl_ hb); clear BK282; clear HB; have BK282 := n0_; have HB := n1_; clear n0_ n1_; (try clear hb); (try clear hb2); (try clear hk); (try clear hi); have hcz8 := blk_cell BK282.out; have hfz8 := blk_frozen BK282.out) | ((with_reducible refine gate_callee (f := 83) rfl ?_); refine goesL_ (some 12) rfl rfl Try.func83 (by kernel_rfl) rfl #[.int .i64 (l0_0.length : Int)] rfl (by (try simp only [List.map_toArray, List.map_cons, List.map_nil]); first | done | rfl | (simp only [List.length_drop, List.length_take]; rfl)) ?_; (with_reducible refine (impl_varText.calls k (l0_0.length : Int) t284 _ A4.out).mono ?_); rintro e w9 ⟨rfl, hb⟩; refine ⟨_, rfl, ?_⟩; have n0_ := Aside0.mk (blk_below (g := gb282) (o := .cells #[.slice A0_0 l0_0.length c0_0] 39 (0, 0)) (blw_ BK282) hb); have n1_ := Aside0.mk (below_step bl_ hb); clear BK282; clear HB; have BK282 := n0_; have HB := n1_; clear n0_ n1_; (try clear hb); (try clear hb2); (try clear hk); (try clear hi); have hcz10 := blk_cell BK282.out; have hfz10 := blk_frozen BK282.out))
    go_loopg [3, 16] k (fun kq v3 v16 w' => ∃ (x3_1 : ByteArray) (x16_1 : Int), v3 = .string x3_1 ∧ v16 = .int .i64 x16_1 ∧ Aside0 (impl_PolicyText.l0 kq x3_1 l0_0 (l0_0.length : Int) x16_1 = some r) ∧ Aside0 (kq ≤ k) ∧ Aside0 (w'.heap[gb282]? = some (.cells #[(.slice A0_0 l0_0.length c0_0)] 39 (0, 0))) ∧ Aside0 (Below w.heap.size w w'))
    case atStart => exact ⟨(t284), (0), (by first | rfl | (simp; done) | (simp [*]; done)), (by first | rfl | (simp; done) | (simp [*]; done)), H', ⟨Nat.le_refl _⟩, ⟨by (with_reducible repeat (first | refine blk_drewN ?_ _ | refine blk_drew ?_ | refine blk_alloc ?_ _)); exact BK282.out⟩, ⟨bl_⟩⟩
    case round =>
      clear H'
      try clear c2
      try clear p2
      try clear c3
      try clear c8
      try clear hcz10
      try clear hcz6
      try clear hcz8
      try clear hfz10
      try clear hfz6
      try clear hfz8
      obtain ⟨x3_1, x16_1, rfl, rfl, HA, HK1, BK282, HB⟩ := hrel
      cases gk with
      | zero => exact absurd HA.out (by simp [impl_PolicyText.l0])
      | succ k1 =>
        have H := HA.out
        clear HA
        simp only [impl_PolicyText.l0] at H
        by_cases c11 : x16_1 < (l0_0.length : Int)
        · rw [if_pos c11] at H
          have c11b0 : decide (x16_1 < (l0_0.length : Int)) = true := decide_eq_true c11
          clear c11
          by_cases c12 : 0 ≤ x16_1
          · rw [if_pos c12] at H
            have c12b0 : decide (0 ≤ x16_1) = true := decide_eq_true c12
            clear c12
            by_cases c13 : x16_1 < (l0_0.length : Int)
            · rw [if_pos c13] at H
              have c13b0 : decide (x16_1 < (l0_0.length : Int)) = true := decide_eq_true c13
              clear c13
              obtain ⟨t287, A14, H⟩ := bindE_ H
              obtain ⟨t288, A15, H⟩ := bindE_ H
              by_cases c16 : t287.size + t288.size ≤ 9223372036854775807
              · rw [if_pos c16] at H
                have c16b0 := eq_true c16
                have c16b1 : decide (t287.size + t288.size ≤ 9223372036854775807) = true := decide_eq_true c16
                try have c16b2 : (9223372036854775807 < t287.size + t288.size) = False := eq_false (Nat.not_lt.2 c16)
                obtain ⟨t289, A17, H⟩ := bindE_ H
                by_cases c18 : (t287 ++ t288).size + t289.size ≤ 9223372036854775807
                · rw [if_pos c18] at H
                  have c18b0 := eq_true c18
                  have c18b1 : decide ((t287 ++ t288).size + t289.size ≤ 9223372036854775807) = true := decide_eq_true c18
                  try have c18b2 : (9223372036854775807 < (t287 ++ t288).size + t289.size) = False := eq_false (Nat.not_lt.2 c18)
                  (try (have c18b3 := c18b2; simp only [ByteArray.size_append] at c18b3)); (try (have c18b4 := c18b0; simp only [ByteArray.size_append] at c18b4))
                  obtain ⟨t290, A19, H⟩ := bindE_ H
                  by_cases c20 : ((t287 ++ t288) ++ t289).size + t290.size ≤ 9223372036854775807
                  · rw [if_pos c20] at H
                    have c20b0 := eq_true c20
                    have c20b1 : decide (((t287 ++ t288) ++ t289).size + t290.size ≤ 9223372036854775807) = true := decide_eq_true c20
                    try have c20b2 : (9223372036854775807 < ((t287 ++ t288) ++ t289).size + t290.size) = False := eq_false (Nat.not_lt.2 c20)
                    (try (have c20b3 := c20b2; simp only [ByteArray.size_append] at c20b3)); (try (have c20b4 := c20b0; simp only [ByteArray.size_append] at c20b4))
                    obtain ⟨t291, A21, H⟩ := bindE_ H
                    by_cases c22 : (((t287 ++ t288) ++ t289) ++ t290).size + t291.size ≤ 9223372036854775807
                    · rw [if_pos c22] at H
                      have c22b0 := eq_true c22
                      have c22b1 : decide ((((t287 ++ t288) ++ t289) ++ t290).size + t291.size ≤ 9223372036854775807) = true := decide_eq_true c22
                      try have c22b2 : (9223372036854775807 < (((t287 ++ t288) ++ t289) ++ t290).size + t291.size) = False := eq_false (Nat.not_lt.2 c22)
                      (try (have c22b3 := c22b2; simp only [ByteArray.size_append] at c22b3)); (try (have c22b4 := c22b0; simp only [ByteArray.size_append] at c22b4))
                      by_cases c23 : x3_1.size + ((((t287 ++ t288) ++ t289) ++ t290) ++ t291).size ≤ 9223372036854775807
                      · rw [if_pos c23] at H
                        have c23b0 := eq_true c23
                        have c23b1 : decide (x3_1.size + ((((t287 ++ t288) ++ t289) ++ t290) ++ t291).size ≤ 9223372036854775807) = true := decide_eq_true c23
                        try have c23b2 : (9223372036854775807 < x3_1.size + ((((t287 ++ t288) ++ t289) ++ t290) ++ t291).size) = False := eq_false (Nat.not_lt.2 c23)
                        (try (have c23b3 := c23b2; simp only [ByteArray.size_append] at c23b3)); (try (have c23b4 := c23b0; simp only [ByteArray.size_append] at c23b4))
                        have H' := Aside0.mk H
                        clear H
                        have p285 : 0 ≤ (x16_1 : Int) := of_decide_eq_true (by first | (with_reducible assumption) | assumption)
                        have q285 : x16_1 < (l0_0.length : Int) := of_decide_eq_true (by first | (with_reducible assumption) | assumption)
                        obtain ⟨ad285, e285, hx285_0, hx285_1, hx285_2, hx285_3, hx285_4⟩ := at_T105 HR0_0.out x16_1 p285 q285
                        cases e285
                        replace hx285_0 := cb_ HB hx285_0
                        replace hx285_1 := cb_ HB hx285_1
                        replace hx285_2 := cb_ HB hx285_2
                        replace hx285_3 := cb_ HB hx285_3
                        replace hx285_4 := cb_ HB hx285_4
                        replace p285 := eq_true p285
                        replace q285 := eq_true q285
                        try go_wp2_with (first | ((with_reducible refine gate_dst (N := 5) rfl ?_); refine box_event ?hg (N := 5) ?hd (cs := #[.int .i64 0, .int .i64 0, .int .i64 0, .int .i64 0, .int .i64 0]) (t := 105) ?hr ?_; (case hd => rfl); (case hg => rfl); (case hr => first | (go_simp; done) | (go_simp; rfl)); intro gb286 hg w24 hbox hb; have n0_ := Aside0.mk (blk_below (g := gb282) (o := .cells #[.slice (some ad285) l0_0.length c0_0] 39 (0, 0)) (blw_ BK282) hb); have n1_ := Aside0.mk (below_step bl_ hb); have n2_ := Aside0.mk (hbox); have n3_ := Aside0.mk ((by rw [hg]; exact bls_ : w.heap.size ≤ gb286)); have n4_ := Aside0.mk ((by rw [hg]; exact bls_ : w.heap.size ≤ gb286)); have n5_ := Aside0.mk ((by rw [hg]; exact Nat.ne_of_lt (blk_lt (g := gb282) (o := .cells #[.slice (some ad285) l0_0.length c0_0] 39 (0, 0)) (blw_ BK282)) : gb282 ≠ gb286)); have n6_ := Aside0.mk ((by rw [hg]; exact Nat.ne_of_gt (blk_lt (g := gb282) (o := .cells #[.slice (some ad285) l0_0.length c0_0] 39 (0, 0)) (blw_ BK282)) : gb286 ≠ gb282)); clear BK282; clear HB; have BK282 := n0_; have HB := n1_; have BK286 := n2_; have GW286 := n3_; have GE286 := n4_; have NB282_286 := n5_; have NB286_282 := n6_; clear n0_ n1_ n2_ n3_ n4_ n5_ n6_; clear hb hbox hg; have hnb25 := NB286_282.out; have hnc25 := NB282_286.out; have hcz26 := blk_cell BK286.out; have hfz26 := blk_frozen BK286.out))
                        have n0_ : Aside0 ((((((w24.setCell ⟨gb286, 0, none⟩ (.int .i64 ((rd_T105 l0_0 x16_1).f0))).setCell ⟨gb286, 1, none⟩ (.int .i64 ((rd_T105 l0_0 x16_1).f1.f0))).setCell ⟨gb286, 2, none⟩ (.int .i64 ((rd_T105 l0_0 x16_1).f1.f1))).setCell ⟨gb286, 3, none⟩ (.int .i64 ((rd_T105 l0_0 x16_1).f2))).setCell ⟨gb286, 4, none⟩ (.int .i64 ((rd_T105 l0_0 x16_1).f3))).heap[gb282]? = some (.cells #[.slice (some ad285) l0_0.length c0_0] 39 (0, 0))) := ⟨by (with_reducible repeat (first | refine blk_drewN ?_ _ | refine blk_drew ?_ | refine blk_alloc ?_ _)); refine blk_far ?_ NB282_286.out _; (with_reducible repeat (first | refine blk_drewN ?_ _ | refine blk_drew ?_ | refine blk_alloc ?_ _)); refine blk_far ?_ NB282_286.out _; (with_reducible repeat (first | refine blk_drewN ?_ _ | refine blk_drew ?_ | refine blk_alloc ?_ _)); refine blk_far ?_ NB282_286.out _; (with_reducible repeat (first | refine blk_drewN ?_ _ | refine blk_drew ?_ | refine blk_alloc ?_ _)); refine blk_far ?_ NB282_286.out _; (with_reducible repeat (first | refine blk_drewN ?_ _ | refine blk_drew ?_ | refine blk_alloc ?_ _)); refine blk_far ?_ NB282_286.out _; (with_reducible repeat (first | refine blk_drewN ?_ _ | refine blk_drew ?_ | refine blk_alloc ?_ _)); exact BK282.out⟩
                        have n1_ : Aside0 ((((((w24.setCell ⟨gb286, 0, none⟩ (.int .i64 ((rd_T105 l0_0 x16_1).f0))).setCell ⟨gb286, 1, none⟩ (.int .i64 ((rd_T105 l0_0 x16_1).f1.f0))).setCell ⟨gb286, 2, none⟩ (.int .i64 ((rd_T105 l0_0 x16_1).f1.f1))).setCell ⟨gb286, 3, none⟩ (.int .i64 ((rd_T105 l0_0 x16_1).f2))).setCell ⟨gb286, 4, none⟩ (.int .i64 ((rd_T105 l0_0 x16_1).f3))).heap[gb286]? = some (.cells #[.int .i64 ((rd_T105 l0_0 x16_1).f0), .int .i64 ((rd_T105 l0_0 x16_1).f1.f0), .int .i64 ((rd_T105 l0_0 x16_1).f1.f1), .int .i64 ((rd_T105 l0_0 x16_1).f2), .int .i64 ((rd_T105 l0_0 x16_1).f3)] 105 (0, 0))) := ⟨by (with_reducible repeat (first | refine blk_drewN ?_ _ | refine blk_drew ?_ | refine blk_alloc ?_ _)); refine blk_put (cs := #[.int .i64 ((rd_T105 l0_0 x16_1).f0), .int .i64 ((rd_T105 l0_0 x16_1).f1.f0), .int .i64 ((rd_T105 l0_0 x16_1).f1.f1), .int .i64 ((rd_T105 l0_0 x16_1).f2), .int .i64 0]) ?_ 4 _ rfl; (with_reducible repeat (first | refine blk_drewN ?_ _ | refine blk_drew ?_ | refine blk_alloc ?_ _)); refine blk_put (cs := #[.int .i64 ((rd_T105 l0_0 x16_1).f0), .int .i64 ((rd_T105 l0_0 x16_1).f1.f0), .int .i64 ((rd_T105 l0_0 x16_1).f1.f1), .int .i64 0, .int .i64 0]) ?_ 3 _ rfl; (with_reducible repeat (first | refine blk_drewN ?_ _ | refine blk_drew ?_ | refine blk_alloc ?_ _)); refine blk_put (cs := #[.int .i64 ((rd_T105 l0_0 x16_1).f0), .int .i64 ((rd_T105 l0_0 x16_1).f1.f0), .int .i64 0, .int .i64 0, .int .i64 0]) ?_ 2 _ rfl; (with_reducible repeat (first | refine blk_drewN ?_ _ | refine blk_drew ?_ | refine blk_alloc ?_ _)); refine blk_put (cs := #[.int .i64 ((rd_T105 l0_0 x16_1).f0), .int .i64 0, .int .i64 0, .int .i64 0, .int .i64 0]) ?_ 1 _ rfl; (with_reducible repeat (first | refine blk_drewN ?_ _ | refine blk_drew ?_ | refine blk_alloc ?_ _)); refine blk_put (cs := #[.int .i64 0, .int .i64 0, .int .i64 0, .int .i64 0, .int .i64 0]) ?_ 0 _ rfl; (with_reducible repeat (first | refine blk_drewN ?_ _ | refine blk_drew ?_ | refine blk_alloc ?_ _)); exact BK286.out⟩
                        have n2_ : Aside0 (Below w.heap.size w (((((w24.setCell ⟨gb286, 0, none⟩ (.int .i64 ((rd_T105 l0_0 x16_1).f0))).setCell ⟨gb286, 1, none⟩ (.int .i64 ((rd_T105 l0_0 x16_1).f1.f0))).setCell ⟨gb286, 2, none⟩ (.int .i64 ((rd_T105 l0_0 x16_1).f1.f1))).setCell ⟨gb286, 3, none⟩ (.int .i64 ((rd_T105 l0_0 x16_1).f2))).setCell ⟨gb286, 4, none⟩ (.int .i64 ((rd_T105 l0_0 x16_1).f3)))) := ⟨bl_⟩
                        (try clear BK282)
                        (try clear BK286)
                        (try clear HB)
                        generalize (((((w24.setCell ⟨gb286, 0, none⟩ (.int .i64 ((rd_T105 l0_0 x16_1).f0))).setCell ⟨gb286, 1, none⟩ (.int .i64 ((rd_T105 l0_0 x16_1).f1.f0))).setCell ⟨gb286, 2, none⟩ (.int .i64 ((rd_T105 l0_0 x16_1).f1.f1))).setCell ⟨gb286, 3, none⟩ (.int .i64 ((rd_T105 l0_0 x16_1).f2))).setCell ⟨gb286, 4, none⟩ (.int .i64 ((rd_T105 l0_0 x16_1).f3))) = w27 at n0_ n1_ n2_ ⊢
                        have BK282 := n0_
                        have BK286 := n1_
                        have HB := n2_
                        clear n0_ n1_ n2_
                        have n0_ := Aside0.mk (blk_drew BK282.out)
                        have n1_ := Aside0.mk (blk_drew BK286.out)
                        have n2_ := Aside0.mk (below_drew1 HB.out)
                        clear BK282
                        clear BK286
                        clear HB
                        have BK282 := n0_
                        have BK286 := n1_
                        have HB := n2_
                        clear n0_ n1_ n2_
                        refine start_ (n := 24) (S := fun w' => w'.cell? ⟨gb286, 0, none⟩ = some (.int .i64 ((rd_T105 l0_0 x16_1).f0)) ∧ w'.cell? ⟨gb286, 1, none⟩ = some (.int .i64 ((rd_T105 l0_0 x16_1).f1.f0)) ∧ w'.cell? ⟨gb286, 2, none⟩ = some (.int .i64 ((rd_T105 l0_0 x16_1).f1.f1)) ∧ w'.cell? ⟨gb286, 3, none⟩ = some (.int .i64 ((rd_T105 l0_0 x16_1).f2)) ∧ w'.cell? ⟨gb286, 4, none⟩ = some (.int .i64 ((rd_T105 l0_0 x16_1).f3))) (ds := []) #[false, false, false, false, false, false, false, false, false, false, false, false, false, false, false, false, false, false, false, false, false, false, false, false] (by kernel_rfl) rfl rfl ⟨(blk_cell BK286.out 0).trans rfl, (blk_cell BK286.out 1).trans rfl, (blk_cell BK286.out 2).trans rfl, (blk_cell BK286.out 3).trans rfl, (blk_cell BK286.out 4).trans rfl⟩ (fun hHeld => ?_); refine with_tabW impl_PolicyText.tab7 impl_PolicyText.bits7 (fun HT_ HW_ => ?_)
                        generalize w27.drew = w28 at BK282 BK286 HB hHeld ⊢
                        refine pure_ (i := 0) (N := some 20) (v := ?_) (a' := ?_) #[true, false, false, false, false, false, false, false, false, false, false, false, false, false, false, false, false, false, false, false, false, false, false, false] rfl rfl (any_of HT_.out (by kernel_rfl)) (fun _ _ _ h => h) (Or.inl ⟨by rfl, ?_⟩) ?_ ?_
                        rotate_left
                        · intro w'
                          go_simp
                          with_reducible rfl
                        rotate_left
                        · simp only [Act.put, List.setIfInBounds_toArray, List.set_cons_zero, List.set_cons_succ, i64_w, i32_w]
                          rfl
                        refine pure_ (i := 1) (N := some 21) (v := ?_) (a' := ?_) #[true, true, false, false, false, false, false, false, false, false, false, false, false, false, false, false, false, false, false, false, false, false, false, false] rfl rfl (any_of HT_.out (by kernel_rfl)) (fun _ _ _ h => h) (Or.inl ⟨by rfl, ?_⟩) ?_ ?_
                        rotate_left
                        · intro w'
                          go_simp
                          with_reducible rfl
                        rotate_left
                        · simp only [Act.put, List.setIfInBounds_toArray, List.set_cons_zero, List.set_cons_succ, i64_w, i32_w]
                          rfl
                        refine pure_ (i := 4) (N := some 24) (v := ?_) (a' := ?_) #[true, true, false, false, true, false, false, false, false, false, false, false, false, false, false, false, false, false, false, false, false, false, false, false] rfl rfl (any_of HT_.out (by kernel_rfl)) (fun _ _ _ h => h) (Or.inl ⟨by rfl, ?_⟩) ?_ ?_
                        rotate_left
                        · intro w'
                          go_simp
                          with_reducible rfl
                        rotate_left
                        · simp only [Act.put, List.setIfInBounds_toArray, List.set_cons_zero, List.set_cons_succ, i64_w, i32_w]
                          rfl
                        refine pure_ (i := 5) (N := some 25) (v := ?_) (a' := ?_) #[true, true, false, false, true, true, false, false, false, false, false, false, false, false, false, false, false, false, false, false, false, false, false, false] rfl rfl (any_of HT_.out (by kernel_rfl)) (fun _ _ _ h => h) (Or.inl ⟨by rfl, ?_⟩) ?_ ?_
                        rotate_left
                        · intro w'
                          go_simp
                          with_reducible rfl
                        rotate_left
                        · simp only [Act.put, List.setIfInBounds_toArray, List.set_cons_zero, List.set_cons_succ, i64_w, i32_w]
                          rfl
                        refine pure_ (i := 9) (N := some 29) (v := ?_) (a' := ?_) #[true, true, false, false, true, true, false, false, false, true, false, false, false, false, false, false, false, false, false, false, false, false, false, false] rfl rfl (any_of HT_.out (by kernel_rfl)) (fun _ _ _ h => h) (Or.inl ⟨by rfl, ?_⟩) ?_ ?_
                        rotate_left
                        · intro w'
                          go_simp
                          with_reducible rfl
                        rotate_left
                        · simp only [Act.put, List.setIfInBounds_toArray, List.set_cons_zero, List.set_cons_succ, i64_w, i32_w]
                          rfl
                        refine pure_ (i := 10) (N := some 30) (v := ?_) (a' := ?_) #[true, true, false, false, true, true, false, false, false, true, true, false, false, false, false, false, false, false, false, false, false, false, false, false] rfl rfl (any_of HT_.out (by kernel_rfl)) (fun _ _ _ h => h) (Or.inl ⟨by rfl, ?_⟩) ?_ ?_
                        rotate_left
                        · intro w'
                          go_simp
                          with_reducible rfl
                        rotate_left
                        · simp only [Act.put, List.setIfInBounds_toArray, List.set_cons_zero, List.set_cons_succ, i64_w, i32_w]
                          rfl
                        refine pure_ (i := 14) (N := some 34) (v := ?_) (a' := ?_) #[true, true, false, false, true, true, false, false, false, true, true, false, false, false, true, false, false, false, false, false, false, false, false, false] rfl rfl (any_of HT_.out (by kernel_rfl)) (fun _ _ _ h => h) (Or.inl ⟨by rfl, ?_⟩) ?_ ?_
                        rotate_left
                        · intro w'
                          go_simp
                          with_reducible rfl
                        rotate_left
                        · simp only [Act.put, List.setIfInBounds_toArray, List.set_cons_zero, List.set_cons_succ, i64_w, i32_w]
                          rfl
                        refine pure_ (i := 18) (N := some 38) (v := ?_) (a' := ?_) #[true, true, false, false, true, true, false, false, false, true, true, false, false, false, true, false, false, false, true, false, false, false, false, false] rfl rfl (any_of HT_.out (by kernel_rfl)) (fun _ _ _ h => h) (Or.inl ⟨by rfl, ?_⟩) ?_ ?_
                        rotate_left
                        · intro w'
                          go_simp
                          with_reducible rfl
                        rotate_left
                        · simp only [Act.put, List.setIfInBounds_toArray, List.set_cons_zero, List.set_cons_succ, i64_w, i32_w]
                          rfl
                        refine take_ (i := 2) (N := some 22) (v := ?_) (a' := ?_) #[true, true, true, false, true, true, false, false, false, true, true, false, false, false, true, false, false, false, true, false, false, false, false, false] rfl rfl (take_ofW HT_.out HW_.out (by kernel_rfl)) (fun _ _ _ h => h) (Or.inl ⟨by rfl, ?_⟩) hHeld ?_ ?_
                        rotate_left
                        · rintro w' ⟨s0, s1, s2, s3, s4⟩
                          go_simp
                          with_reducible rfl
                        rotate_left
                        · simp only [Act.put, List.setIfInBounds_toArray, List.set_cons_zero, List.set_cons_succ, i64_w, i32_w]
                          rfl
                        refine take_ (i := 6) (N := some 26) (v := ?_) (a' := ?_) #[true, true, true, false, true, true, true, false, false, true, true, false, false, false, true, false, false, false, true, false, false, false, false, false] rfl rfl (take_ofW HT_.out HW_.out (by kernel_rfl)) (fun _ _ _ h => h) (Or.inl ⟨by rfl, ?_⟩) hHeld ?_ ?_
                        rotate_left
                        · rintro w' ⟨s0, s1, s2, s3, s4⟩
                          go_simp
                          with_reducible rfl
                        rotate_left
                        · simp only [Act.put, List.setIfInBounds_toArray, List.set_cons_zero, List.set_cons_succ, i64_w, i32_w]
                          rfl
                        refine take_ (i := 11) (N := some 31) (v := ?_) (a' := ?_) #[true, true, true, false, true, true, true, false, false, true, true, true, false, false, true, false, false, false, true, false, false, false, false, false] rfl rfl (take_ofW HT_.out HW_.out (by kernel_rfl)) (fun _ _ _ h => h) (Or.inl ⟨by rfl, ?_⟩) hHeld ?_ ?_
                        rotate_left
                        · rintro w' ⟨s0, s1, s2, s3, s4⟩
                          go_simp
                          with_reducible rfl
                        rotate_left
                        · simp only [Act.put, List.setIfInBounds_toArray, List.set_cons_zero, List.set_cons_succ, i64_w, i32_w]
                          rfl
                        refine take_ (i := 15) (N := some 35) (v := ?_) (a' := ?_) #[true, true, true, false, true, true, true, false, false, true, true, true, false, false, true, true, false, false, true, false, false, false, false, false] rfl rfl (take_ofW HT_.out HW_.out (by kernel_rfl)) (fun _ _ _ h => h) (Or.inl ⟨by rfl, ?_⟩) hHeld ?_ ?_
                        rotate_left
                        · rintro w' ⟨s0, s1, s2, s3, s4⟩
                          go_simp
                          with_reducible rfl
                        rotate_left
                        · simp only [Act.put, List.setIfInBounds_toArray, List.set_cons_zero, List.set_cons_succ, i64_w, i32_w]
                          rfl
                        refine take_ (i := 19) (N := some 39) (v := ?_) (a' := ?_) #[true, true, true, false, true, true, true, false, false, true, true, true, false, false, true, true, false, false, true, true, false, false, false, false] rfl rfl (take_ofW HT_.out HW_.out (by kernel_rfl)) (fun _ _ _ h => h) (Or.inl ⟨by rfl, ?_⟩) hHeld ?_ ?_
                        rotate_left
                        · rintro w' ⟨s0, s1, s2, s3, s4⟩
                          go_simp
                          with_reducible rfl
                        rotate_left
                        · simp only [Act.put, List.setIfInBounds_toArray, List.set_cons_zero, List.set_cons_succ, i64_w, i32_w]
                          rfl
                        refine one_ (i := 3) (N := some 23) #[true, true, true, true, true, true, true, false, false, true, true, true, false, false, true, true, false, false, true, true, false, false, false, false] rfl rfl (one_of HT_.out (by kernel_rfl)) (by decide) (fun K hK => ?_)
                        refine goes_ Try.func83 (by kernel_rfl) rfl #[.int .i64 ((rd_T105 l0_0 x16_1).f0)] (by rfl) rfl rfl (by (try simp only [List.map_toArray, List.map_cons, List.map_nil]); first | done | rfl | (simp only [List.length_drop, List.length_take]; rfl)) ?_
                        with_reducible refine (impl_varText.calls k1 ((rd_T105 l0_0 x16_1).f0) t287 _ A14.out).mono ?_
                        rintro e w29 ⟨rfl, hb⟩
                        refine ⟨_, rfl, ?_⟩
                        have n0_ := Aside0.mk (blk_below (g := gb282) (o := .cells #[.slice (some ad285) l0_0.length c0_0] 39 (0, 0)) (blw_ BK282) hb)
                        have n1_ := Aside0.mk (blk_below (g := gb286) (o := .cells #[.int .i64 ((rd_T105 l0_0 x16_1).f0), .int .i64 ((rd_T105 l0_0 x16_1).f1.f0), .int .i64 ((rd_T105 l0_0 x16_1).f1.f1), .int .i64 ((rd_T105 l0_0 x16_1).f2), .int .i64 ((rd_T105 l0_0 x16_1).f3)] 105 (0, 0)) (blw_ BK286) hb)
                        have n2_ := Aside0.mk (below_step bl_ hb)
                        clear BK282
                        clear BK286
                        clear HB
                        have BK282 := n0_
                        have BK286 := n1_
                        have HB := n2_
                        clear n0_ n1_ n2_
                        (try clear hb)
                        (try clear hb2)
                        (try clear hk)
                        (try clear hi)
                        refine hK.out _ _ ⟨(blk_cell BK286.out 0).trans rfl, (blk_cell BK286.out 1).trans rfl, (blk_cell BK286.out 2).trans rfl, (blk_cell BK286.out 3).trans rfl, (blk_cell BK286.out 4).trans rfl⟩ (fun hHeld => ?_)
                        clear hK K
                        refine norm_ (a' := ?_) ?_ ?_
                        rotate_left
                        · show Act.put _ (some 23) _ = _
                          simp only [Act.put, List.setIfInBounds_toArray, List.set_cons_zero, List.set_cons_succ, i64_w, i32_w]
                          rfl
                        refine one_ (i := 7) (N := some 27) #[true, true, true, true, true, true, true, true, false, true, true, true, false, false, true, true, false, false, true, true, false, false, false, false] rfl rfl (one_of HT_.out (by kernel_rfl)) (by decide) (fun K hK => ?_)
                        refine goes_ Try.func83 (by kernel_rfl) rfl #[.int .i64 ((rd_T105 l0_0 x16_1).f1.f0)] (by rfl) rfl rfl (by (try simp only [List.map_toArray, List.map_cons, List.map_nil]); first | done | rfl | (simp only [List.length_drop, List.length_take]; rfl)) ?_
                        with_reducible refine (impl_varText.calls k1 ((rd_T105 l0_0 x16_1).f1.f0) t288 _ A15.out).mono ?_
                        rintro e w30 ⟨rfl, hb⟩
                        refine ⟨_, rfl, ?_⟩
                        have n0_ := Aside0.mk (blk_below (g := gb282) (o := .cells #[.slice (some ad285) l0_0.length c0_0] 39 (0, 0)) (blw_ BK282) hb)
                        have n1_ := Aside0.mk (blk_below (g := gb286) (o := .cells #[.int .i64 ((rd_T105 l0_0 x16_1).f0), .int .i64 ((rd_T105 l0_0 x16_1).f1.f0), .int .i64 ((rd_T105 l0_0 x16_1).f1.f1), .int .i64 ((rd_T105 l0_0 x16_1).f2), .int .i64 ((rd_T105 l0_0 x16_1).f3)] 105 (0, 0)) (blw_ BK286) hb)
                        have n2_ := Aside0.mk (below_step bl_ hb)
                        clear BK282
                        clear BK286
                        clear HB
                        have BK282 := n0_
                        have BK286 := n1_
                        have HB := n2_
                        clear n0_ n1_ n2_
                        (try clear hb)
                        (try clear hb2)
                        (try clear hk)
                        (try clear hi)
                        refine hK.out _ _ ⟨(blk_cell BK286.out 0).trans rfl, (blk_cell BK286.out 1).trans rfl, (blk_cell BK286.out 2).trans rfl, (blk_cell BK286.out 3).trans rfl, (blk_cell BK286.out 4).trans rfl⟩ (fun hHeld => ?_)
                        clear hK K
                        refine norm_ (a' := ?_) ?_ ?_
                        rotate_left
                        · show Act.put _ (some 27) _ = _
                          simp only [Act.put, List.setIfInBounds_toArray, List.set_cons_zero, List.set_cons_succ, i64_w, i32_w]
                          rfl
                        refine pure_ (i := 8) (N := some 28) (v := ?_) (a' := ?_) #[true, true, true, true, true, true, true, true, true, true, true, true, false, false, true, true, false, false, true, true, false, false, false, false] rfl rfl (any_of HT_.out (by kernel_rfl)) (fun _ _ _ h => h) (Or.inl ⟨by rfl, ?_⟩) ?_ ?_
                        rotate_left
                        · intro w'
                          go_simp
                          with_reducible rfl
                        rotate_left
                        · simp only [Act.put, List.setIfInBounds_toArray, List.set_cons_zero, List.set_cons_succ, i64_w, i32_w]
                          rfl
                        refine one_ (i := 12) (N := some 32) #[true, true, true, true, true, true, true, true, true, true, true, true, true, false, true, true, false, false, true, true, false, false, false, false] rfl rfl (one_of HT_.out (by kernel_rfl)) (by decide) (fun K hK => ?_)
                        refine goes_ Try.func83 (by kernel_rfl) rfl #[.int .i64 ((rd_T105 l0_0 x16_1).f1.f1)] (by rfl) rfl rfl (by (try simp only [List.map_toArray, List.map_cons, List.map_nil]); first | done | rfl | (simp only [List.length_drop, List.length_take]; rfl)) ?_
                        with_reducible refine (impl_varText.calls k1 ((rd_T105 l0_0 x16_1).f1.f1) t289 _ A17.out).mono ?_
                        rintro e w31 ⟨rfl, hb⟩
                        refine ⟨_, rfl, ?_⟩
                        have n0_ := Aside0.mk (blk_below (g := gb282) (o := .cells #[.slice (some ad285) l0_0.length c0_0] 39 (0, 0)) (blw_ BK282) hb)
                        have n1_ := Aside0.mk (blk_below (g := gb286) (o := .cells #[.int .i64 ((rd_T105 l0_0 x16_1).f0), .int .i64 ((rd_T105 l0_0 x16_1).f1.f0), .int .i64 ((rd_T105 l0_0 x16_1).f1.f1), .int .i64 ((rd_T105 l0_0 x16_1).f2), .int .i64 ((rd_T105 l0_0 x16_1).f3)] 105 (0, 0)) (blw_ BK286) hb)
                        have n2_ := Aside0.mk (below_step bl_ hb)
                        clear BK282
                        clear BK286
                        clear HB
                        have BK282 := n0_
                        have BK286 := n1_
                        have HB := n2_
                        clear n0_ n1_ n2_
                        (try clear hb)
                        (try clear hb2)
                        (try clear hk)
                        (try clear hi)
                        refine hK.out _ _ ⟨(blk_cell BK286.out 0).trans rfl, (blk_cell BK286.out 1).trans rfl, (blk_cell BK286.out 2).trans rfl, (blk_cell BK286.out 3).trans rfl, (blk_cell BK286.out 4).trans rfl⟩ (fun hHeld => ?_)
                        clear hK K
                        refine norm_ (a' := ?_) ?_ ?_
                        rotate_left
                        · show Act.put _ (some 32) _ = _
                          simp only [Act.put, List.setIfInBounds_toArray, List.set_cons_zero, List.set_cons_succ, i64_w, i32_w]
                          rfl
                        refine pure_ (i := 13) (N := some 33) (v := ?_) (a' := ?_) #[true, true, true, true, true, true, true, true, true, true, true, true, true, true, true, true, false, false, true, true, false, false, false, false] rfl rfl (any_of HT_.out (by kernel_rfl)) (fun _ _ _ h => h) (Or.inl ⟨by rfl, ?_⟩) ?_ ?_
                        rotate_left
                        · intro w'
                          go_simp
                          with_reducible rfl
                        rotate_left
                        · simp only [Act.put, List.setIfInBounds_toArray, List.set_cons_zero, List.set_cons_succ, i64_w, i32_w]
                          rfl
                        refine one_ (i := 16) (N := some 36) #[true, true, true, true, true, true, true, true, true, true, true, true, true, true, true, true, true, false, true, true, false, false, false, false] rfl rfl (one_of HT_.out (by kernel_rfl)) (by decide) (fun K hK => ?_)
                        refine goes_ Try.func83 (by kernel_rfl) rfl #[.int .i64 ((rd_T105 l0_0 x16_1).f2)] (by rfl) rfl rfl (by (try simp only [List.map_toArray, List.map_cons, List.map_nil]); first | done | rfl | (simp only [List.length_drop, List.length_take]; rfl)) ?_
                        with_reducible refine (impl_varText.calls k1 ((rd_T105 l0_0 x16_1).f2) t290 _ A19.out).mono ?_
                        rintro e w32 ⟨rfl, hb⟩
                        refine ⟨_, rfl, ?_⟩
                        have n0_ := Aside0.mk (blk_below (g := gb282) (o := .cells #[.slice (some ad285) l0_0.length c0_0] 39 (0, 0)) (blw_ BK282) hb)
                        have n1_ := Aside0.mk (blk_below (g := gb286) (o := .cells #[.int .i64 ((rd_T105 l0_0 x16_1).f0), .int .i64 ((rd_T105 l0_0 x16_1).f1.f0), .int .i64 ((rd_T105 l0_0 x16_1).f1.f1), .int .i64 ((rd_T105 l0_0 x16_1).f2), .int .i64 ((rd_T105 l0_0 x16_1).f3)] 105 (0, 0)) (blw_ BK286) hb)
                        have n2_ := Aside0.mk (below_step bl_ hb)
                        clear BK282
                        clear BK286
                        clear HB
                        have BK282 := n0_
                        have BK286 := n1_
                        have HB := n2_
                        clear n0_ n1_ n2_
                        (try clear hb)
                        (try clear hb2)
                        (try clear hk)
                        (try clear hi)
                        refine hK.out _ _ ⟨(blk_cell BK286.out 0).trans rfl, (blk_cell BK286.out 1).trans rfl, (blk_cell BK286.out 2).trans rfl, (blk_cell BK286.out 3).trans rfl, (blk_cell BK286.out 4).trans rfl⟩ (fun hHeld => ?_)
                        clear hK K
                        refine norm_ (a' := ?_) ?_ ?_
                        rotate_left
                        · show Act.put _ (some 36) _ = _
                          simp only [Act.put, List.setIfInBounds_toArray, List.set_cons_zero, List.set_cons_succ, i64_w, i32_w]
                          rfl
                        refine pure_ (i := 17) (N := some 37) (v := ?_) (a' := ?_) #[true, true, true, true, true, true, true, true, true, true, true, true, true, true, true, true, true, true, true, true, false, false, false, false] rfl rfl (any_of HT_.out (by kernel_rfl)) (fun _ _ _ h => h) (Or.inl ⟨by rfl, ?_⟩) ?_ ?_
                        rotate_left
                        · intro w'
                          go_simp
                          with_reducible rfl
                        rotate_left
                        · simp only [Act.put, List.setIfInBounds_toArray, List.set_cons_zero, List.set_cons_succ, i64_w, i32_w]
                          rfl
                        refine one_ (i := 20) (N := some 40) #[true, true, true, true, true, true, true, true, true, true, true, true, true, true, true, true, true, true, true, true, true, false, false, false] rfl rfl (one_of HT_.out (by kernel_rfl)) (by decide) (fun K hK => ?_)
                        refine goes_ Try.func83 (by kernel_rfl) rfl #[.int .i64 ((rd_T105 l0_0 x16_1).f3)] (by rfl) rfl rfl (by (try simp only [List.map_toArray, List.map_cons, List.map_nil]); first | done | rfl | (simp only [List.length_drop, List.length_take]; rfl)) ?_
                        with_reducible refine (impl_varText.calls k1 ((rd_T105 l0_0 x16_1).f3) t291 _ A21.out).mono ?_
                        rintro e w33 ⟨rfl, hb⟩
                        refine ⟨_, rfl, ?_⟩
                        have n0_ := Aside0.mk (blk_below (g := gb282) (o := .cells #[.slice (some ad285) l0_0.length c0_0] 39 (0, 0)) (blw_ BK282) hb)
                        have n1_ := Aside0.mk (blk_below (g := gb286) (o := .cells #[.int .i64 ((rd_T105 l0_0 x16_1).f0), .int .i64 ((rd_T105 l0_0 x16_1).f1.f0), .int .i64 ((rd_T105 l0_0 x16_1).f1.f1), .int .i64 ((rd_T105 l0_0 x16_1).f2), .int .i64 ((rd_T105 l0_0 x16_1).f3)] 105 (0, 0)) (blw_ BK286) hb)
                        have n2_ := Aside0.mk (below_step bl_ hb)
                        clear BK282
                        clear BK286
                        clear HB
                        have BK282 := n0_
                        have BK286 := n1_
                        have HB := n2_
                        clear n0_ n1_ n2_
                        (try clear hb)
                        (try clear hb2)
                        (try clear hk)
                        (try clear hi)
                        refine hK.out _ _ ⟨(blk_cell BK286.out 0).trans rfl, (blk_cell BK286.out 1).trans rfl, (blk_cell BK286.out 2).trans rfl, (blk_cell BK286.out 3).trans rfl, (blk_cell BK286.out 4).trans rfl⟩ (fun hHeld => ?_)
                        clear hK K
                        refine norm_ (a' := ?_) ?_ ?_
                        rotate_left
                        · show Act.put _ (some 40) _ = _
                          simp only [Act.put, List.setIfInBounds_toArray, List.set_cons_zero, List.set_cons_succ, i64_w, i32_w]
                          rfl
                        refine pure_ (i := 21) (N := some 41) (v := ?_) (a' := ?_) #[true, true, true, true, true, true, true, true, true, true, true, true, true, true, true, true, true, true, true, true, true, true, false, false] rfl rfl (any_of HT_.out (by kernel_rfl)) (fun _ _ _ h => h) (Or.inl ⟨by rfl, ?_⟩) ?_ ?_
                        rotate_left
                        · intro w'
                          go_simp
                          with_reducible rfl
                        rotate_left
                        · simp only [Act.put, List.setIfInBounds_toArray, List.set_cons_zero, List.set_cons_succ, i64_w, i32_w]
                          rfl
                        refine pure_ (i := 22) (N := some 42) (v := ?_) (a' := ?_) #[true, true, true, true, true, true, true, true, true, true, true, true, true, true, true, true, true, true, true, true, true, true, true, false] rfl rfl (any_of HT_.out (by kernel_rfl)) (fun _ _ _ h => h) (Or.inl ⟨by rfl, ?_⟩) ?_ ?_
                        rotate_left
                        · intro w'
                          go_simp
                          with_reducible rfl
                        rotate_left
                        · simp only [Act.put, List.setIfInBounds_toArray, List.set_cons_zero, List.set_cons_succ, i64_w, i32_w]
                          rfl
                        refine pure_ (i := 23) (N := some 3) (v := ?_) (a' := ?_) #[true, true, true, true, true, true, true, true, true, true, true, true, true, true, true, true, true, true, true, true, true, true, true, true] rfl rfl (any_of HT_.out (by kernel_rfl)) (fun _ _ _ h => h) (Or.inl ⟨by rfl, ?_⟩) ?_ ?_
                        rotate_left
                        · intro w'
                          go_simp
                          with_reducible rfl
                        rotate_left
                        · simp only [Act.put, List.setIfInBounds_toArray, List.set_cons_zero, List.set_cons_succ, i64_w, i32_w]
                          rfl
                        refine done_ (done_of HT_.out (by kernel_rfl)) ?_
                        try go_wp2
                        go_roundg k1
                        case measure => have := HK1.out; omega
                        case rel => exact ⟨(x3_1 ++ ((((t287 ++ t288) ++ t289) ++ t290) ++ t291)), (wrap64 (x16_1 + 1)), (by first | rfl | (simp; done) | (simp [*]; done)), (by first | rfl | (simp; done) | (simp [*]; done)), H', ⟨by have := HK1.out; omega⟩, ⟨by (with_reducible repeat (first | refine blk_drewN ?_ _ | refine blk_drew ?_ | refine blk_alloc ?_ _)); exact BK282.out⟩, ⟨bl_⟩⟩
                      · rw [if_neg c23] at H
                        exact absurd H (by simp)
                    · rw [if_neg c22] at H
                      exact absurd H (by simp)
                  · rw [if_neg c20] at H
                    exact absurd H (by simp)
                · rw [if_neg c18] at H
                  exact absurd H (by simp)
              · rw [if_neg c16] at H
                exact absurd H (by simp)
            · rw [if_neg c13] at H
              exact absurd H (by simp)
          · rw [if_neg c12] at H
            exact absurd H (by simp)
        · rw [if_neg c11] at H
          have c11b0 : decide (x16_1 < (l0_0.length : Int)) = false := decide_eq_false c11
          clear c11
          obtain rfl := Option.some.inj H
          go_wp2
          go_ret
          exact ⟨by first | rfl | (simp [errW_none, errW_some] <;> rfl) | (simp [*, errW_none, errW_some] <;> rfl), bl_⟩
  · replace c3 := Bool.eq_false_iff.mpr c3
    subst c3
    replace H := ite_f_ H
    obtain rfl := Option.some.inj H
    go_enter Try.func24, Try.ntmps24
    go_wp2_with (first | ((with_reducible refine gate_dst (N := 1) rfl ?_); refine box_event ?hg (N := 1) ?hd (cs := #[.slice A0_0 l0_0.length c0_0]) (t := 39) ?hr ?_; (case hd => rfl); (case hg => rfl); (case hr => first | (go_simp; done) | (go_simp; rfl)); intro gb282 hg w34 hbox hb; have n0_ := Aside0.mk (below_step bl_ hb); have n1_ := Aside0.mk (hbox); have n2_ := Aside0.mk ((by rw [hg]; exact bls_ : w.heap.size ≤ gb282)); have n3_ := Aside0.mk ((by rw [hg]; exact bls_ : w.heap.size ≤ gb282)); clear HB; have HB := n0_; have BK282 := n1_; have GW282 := n2_; have GE282 := n3_; clear n0_ n1_ n2_ n3_; clear hb hbox hg; have hcz35 := blk_cell BK282.out; have hfz35 := blk_frozen BK282.out) | ((with_reducible refine gate_callee (f := 21) rfl ?_); refine goesL_ (some 7) rfl rfl Try.func21 (by kernel_rfl) rfl #[.agg #[.slice A0_0 l0_0.length c0_0]] rfl (by (try simp only [List.map_toArray, List.map_cons, List.map_nil]); first | done | rfl | (simp only [List.length_drop, List.length_take]; rfl)) ?_; (with_reducible refine (impl_PolicyOk.calls k _ _ l0_0 false _ ?side1 ?side2 A2.out).mono ?_); (case side1 => repeat (first | exact (Kd.C_below HR0_0.out HB.out) | (with_reducible refine Kd.C_alloc ?_ _) | (with_reducible refine Kd.C_drewN ?_ _) | (with_reducible refine Kd.C_drew ?_))); (case side2 => exact HC0_0.out); rintro e w36 ⟨rfl, hb⟩; refine ⟨_, rfl, ?_⟩; have n0_ := Aside0.mk (blk_below (g := gb282) (o := .cells #[.slice A0_0 l0_0.length c0_0] 39 (0, 0)) (blw_ BK282) hb); have n1_ := Aside0.mk (below_step bl_ hb); clear BK282; clear HB; have BK282 := n0_; have HB := n1_; clear n0_ n1_; (try clear hb); (try clear hb2); (try clear hk); (try clear hi)))
    go_ret
    exact ⟨by first | rfl | (simp [errW_none, errW_some] <;> rfl) | (simp [*, errW_none, errW_some] <;> rfl), bl_⟩

end Go.Proofs.Ytcgnegnljffkmaa.PA
