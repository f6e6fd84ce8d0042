import Derived.Test.YtcgnegnljffkmaaKFnExactRisingPEx0
import Derived.Test.YtcgnegnljffkmaaKFnExactRisingPEx2
-- A text of this claim: written by the session's own program out of the translation (wip/tools). Lean checks it.
namespace Go.Proofs.Ytcgnegnljffkmaa.PE
open Go.RowKit Go.Proofs.YtcgnegnljffkmaaW.PrintWords Go.Proofs.YtcgnegnljffkmaaW.PrintLast Go.Proofs.YtcgnegnljffkmaaW.PrintMore
attribute [local go_sem] max2_int min2_int max_two min_two max_three min_three max_four min_four   -- for this text's walks alone
set_option linter.unusedVariables false
set_option linter.unusedSimpArgs false
mutual
def spec_PolicyOk.l0 : Nat → Int → List (S105) → Option (Bool)
 | 0, _, _ => none
 | k + 1, x3, x143000 => if x3 < (x143000.length : Int) then (if 0 ≤ x3 then (if ((rd_T105 x143000 x3).f0) = 1 then ((spec_RoleOk.f ((rd_T105 x143000 x3).f1.f0) ((rd_T105 x143000 x3).f1.f1)).bind fun t146 => (if t146 = true then (if ((rd_T105 x143000 x3).f2) = 0 then (if ((rd_T105 x143000 x3).f3) = 0 then (spec_PolicyOk.l0 k (wrap64 (x3 + 1)) x143000) else (some false)) else (some false)) else (some false))) else (if ((rd_T105 x143000 x3).f0) = 2 then (spec_PolicyOk.j1 k x3 ((rd_T105 x143000 x3).f0) (((rd_T105 x143000 x3).f0) == 2) x143000 ((rd_T105 x143000 x3).f0) ((rd_T105 x143000 x3).f1.f0) ((rd_T105 x143000 x3).f1.f1) ((rd_T105 x143000 x3).f2) ((rd_T105 x143000 x3).f3)) else (spec_PolicyOk.j1 k x3 ((rd_T105 x143000 x3).f0) (((rd_T105 x143000 x3).f0) == 3) x143000 ((rd_T105 x143000 x3).f0) ((rd_T105 x143000 x3).f1.f0) ((rd_T105 x143000 x3).f1.f1) ((rd_T105 x143000 x3).f2) ((rd_T105 x143000 x3).f3)))) else (none)) else (some true)
def spec_PolicyOk.j1 : Nat → Int → Int → Bool → List (S105) → Int → Int → Int → Int → Int → Option (Bool)
 | 0, _, _, _, _, _, _, _, _, _ => none
 | k + 1, x3, x23, x40, x143000, x146000, x146001, x146002, x146003, x146004 => if x40 = true then ((spec_l21None.f x146001 x146002).bind fun t147 => (if t147 = true then ((spec_l01In.f x146003 0 (wrap64 (x3 - 1))).bind fun t148 => (if t148 = true then ((spec_l01In.f x146004 0 (wrap64 (x3 - 1))).bind fun t149 => (if t149 = true then (spec_PolicyOk.l0 k (wrap64 (x3 + 1)) x143000) else (some false))) else (some false))) else (some false))) else (if x23 = 4 then ((spec_l21None.f x146001 x146002).bind fun t150 => (if t150 = true then ((spec_l01In.f x146003 0 (wrap64 (x3 - 1))).bind fun t151 => (if t151 = true then (if x146004 = 0 then (spec_PolicyOk.l0 k (wrap64 (x3 + 1)) x143000) else (some false)) else (some false))) else (some false))) else (some false))
end
def spec_PolicyOk.f (k : Nat) (l0_0 : List (S105)) : Option (Bool) := (spec_l01In.f (l0_0.length : Int) 1 40).bind fun t143 => (if t143 = true then (spec_PolicyOk.l0 k 0 l0_0) else (some false))
set_option maxHeartbeats 8000000 in
set_option maxRecDepth 100000 in
theorem spec_PolicyOk.calls (k : Nat) (A0_0 : Option Addr) (c0_0 : Nat) (l0_0 : List (S105)) (r : Bool) (w : World) (hr0_0 : Kd.C k105 w A0_0 l0_0.length l0_0) (hc0_0 : l0_0.length ≤ c0_0) (h : spec_PolicyOk.f k l0_0 = some r) :
  Calls Try.prog 19 #[.agg #[.slice A0_0 l0_0.length c0_0]] w fun e w' => e = .returned (.bool r) ∧ Below w.heap.size w w' := by
 have hu39 := Try.underlying39
 have hu105 := Try.underlying105
 have hu27 := Try.underlying27
 have HR0_0 := Aside0.mk hr0_0
 have HC0_0 := Aside0.mk hc0_0
 clear hr0_0 hc0_0
 have HB := Aside0.mk (Below.refl w.heap.size w)
 have H : ((spec_l01In.f (l0_0.length : Int) 1 40).bind fun t143 => (if t143 = true then (spec_PolicyOk.l0 k 0 l0_0) else (some false))) = some r := h
 clear h
 obtain ⟨t143, A2, H⟩ := bindE_ H
 by_cases c3 : t143 = true
 ·subst c3
  replace H := ite_t_ H
  have H' := Aside0.mk H
  clear H
  go_enter Try.func19, Try.ntmps19
  go_wp2_with (first | ((with_reducible refine gate_dst (N := 1) rfl ?_); refine box_event ?hg (N := 1) ?hd (cs := #[.slice A0_0 l0_0.length c0_0]) (t := 39) ?hr ?_; (case hd => rfl); (case hg => rfl); (case hr => first | (go_simp; done) | (go_simp; rfl)); intro gb142 hg w4 hbox hb; have BK142 := Aside0.mk (hbox); have GW142 := gs_ hg; have GE142 := gs_ hg; replace HB := hbs_ hb; clear hb hbox hg; have hcz5 := blk_cell BK142.out; have hfz5 := blk_frozen BK142.out) | ((with_reducible refine gate_callee (f := 75) rfl ?_); refine goesC_ (some 8) Try.func75 #[.int .i64 (l0_0.length : Int), .int .i64 1, .int .i64 40] ?_; (with_reducible refine (spec_l01In.calls (l0_0.length : Int) 1 40 true _ A2.out).mono ?_); rintro e w' ⟨rfl, ⟨nd, rfl⟩⟩; refine ⟨_, rfl, ?_⟩))
  go_loopg [3] k (fun kq v3 w' => ∃ (x3_1 : Int), v3 = .int .i64 x3_1 ∧ Aside0 (spec_PolicyOk.l0 kq x3_1 l0_0 = some r) ∧ Aside0 (kq ≤ k) ∧ Aside0 (w'.heap[gb142]? = some (.cells #[(.slice A0_0 l0_0.length c0_0)] 39 (0, 0))) ∧ Aside0 (Below w.heap.size w w'))
  case atStart => exact ⟨(0), (by first | rfl | (simp; done) | (simp [*]; done)), H', ⟨Nat.le_refl _⟩, ⟨bk_ BK142⟩, ⟨bl_⟩⟩
  case round =>
   clear H'
   try clear c1
   try clear p2
   try clear c3
   try clear hcz5
   try clear hfz5
   obtain ⟨x3_1, rfl, HA, HK1, BK142, HB⟩ := hrel
   cases gk with
   | zero => exact absurd HA.out (by simp [spec_PolicyOk.l0])
   | succ k1 =>
    have H := HA.out
    clear HA
    simp only [spec_PolicyOk.l0] at H
    by_cases c6 : x3_1 < (l0_0.length : Int)
    ·rw [if_pos c6] at H
     have c6b0 : decide (x3_1 < (l0_0.length : Int)) = true := decide_eq_true c6
     clear c6
     by_cases c7 : 0 ≤ x3_1
     ·rw [if_pos c7] at H
      have c7b0 : decide (0 ≤ x3_1) = true := decide_eq_true c7
      clear c7
      by_cases c8 : ((rd_T105 l0_0 x3_1).f0) = 1
      ·rw [if_pos c8] at H
       have c8b0 : (((rd_T105 l0_0 x3_1).f0) == 1) = true := beq_iff_eq.mpr c8
       have c8b1 : (((rd_T105 l0_0 x3_1).f0) != 1) = false := bne_eq_false_iff_eq.mpr c8
       clear c8
       obtain ⟨t146, A9, H⟩ := bindE_ H
       by_cases c10 : t146 = true
       ·subst c10
        replace H := ite_t_ H
        by_cases c11 : ((rd_T105 l0_0 x3_1).f2) = 0
        ·rw [if_pos c11] at H
         have c11b0 : (((rd_T105 l0_0 x3_1).f2) == 0) = true := beq_iff_eq.mpr c11
         have c11b1 : (((rd_T105 l0_0 x3_1).f2) != 0) = false := bne_eq_false_iff_eq.mpr c11
         clear c11
         by_cases c12 : ((rd_T105 l0_0 x3_1).f3) = 0
         ·rw [if_pos c12] at H
          have c12b0 : (((rd_T105 l0_0 x3_1).f3) == 0) = true := beq_iff_eq.mpr c12
          have c12b1 : (((rd_T105 l0_0 x3_1).f3) != 0) = false := bne_eq_false_iff_eq.mpr c12
          clear c12
          have H' := Aside0.mk H
          clear H
          have hcz13 := blk_cell BK142.out
          have hfz13 := blk_frozen BK142.out
          have p144 : 0 ≤ (x3_1 : Int) := of_decide_eq_true (by first | (with_reducible assumption) | assumption)
          have q144 : x3_1 < (l0_0.length : Int) := of_decide_eq_true (by first | (with_reducible assumption) | assumption)
          obtain ⟨ad144, e144, hx144_0, hx144_1, hx144_2, hx144_3, hx144_4⟩ := at_T105 (Kd.C_below HR0_0.out HB.out) x3_1 p144 q144
          cases e144
          replace p144 := eq_true p144
          replace q144 := eq_true q144
          go_wp2_with (first | ((with_reducible refine gate_dst (N := 4) rfl ?_); refine box_event ?hg (N := 4) ?hd (cs := #[.int .i64 0, .int .i64 0, .int .i64 0, .int .i64 0, .int .i64 0]) (t := 105) ?hr ?_; (case hd => rfl); (case hg => rfl); (case hr => first | (go_simp; done) | (go_simp; rfl)); intro gb145 hg w14 hbox hb; have BK145 := Aside0.mk (hbox); have GW145 := gs_ hg; have GE145 := gs_ hg; replace HB := hbs_ hb; have NB142_145 := Aside0.mk ((by rw [hg]; exact Nat.ne_of_lt (blk_lt (g := gb142) (o := .cells #[.slice (some ad144) l0_0.length c0_0] 39 (0, 0)) (bk_ BK142)) : gb142 ≠ gb145)); have NB145_142 := Aside0.mk ((by rw [hg]; exact Nat.ne_of_gt (blk_lt (g := gb142) (o := .cells #[.slice (some ad144) l0_0.length c0_0] 39 (0, 0)) (bk_ BK142)) : gb145 ≠ gb142)); replace BK142 := bkb_ BK142 hb; clear hb hbox hg; have hnb15 := NB145_142.out; have hnc15 := NB142_145.out; have hcz16 := blk_cell BK145.out; have hfz16 := blk_frozen BK145.out) | ((with_reducible refine gate_callee (f := 76) rfl ?_); refine goesC_ (some 28) Try.func76 #[.agg #[.int .i64 ((rd_T105 l0_0 x3_1).f1.f0), .int .i64 ((rd_T105 l0_0 x3_1).f1.f1)]] ?_; (with_reducible refine (spec_RoleOk.calls ((rd_T105 l0_0 x3_1).f1.f0) ((rd_T105 l0_0 x3_1).f1.f1) true _ A9.out).mono ?_); rintro e w17 ⟨rfl, hb⟩; refine ⟨_, rfl, ?_⟩; replace BK142 := Aside0.mk (blk_below (g := gb142) (o := .cells #[.slice (some ad144) l0_0.length c0_0] 39 (0, 0)) (bk_ BK142) hb); replace BK145 := Aside0.mk (blk_below (g := gb145) (o := .cells #[.int .i64 ((rd_T105 l0_0 x3_1).f0), .int .i64 ((rd_T105 l0_0 x3_1).f1.f0), .int .i64 ((rd_T105 l0_0 x3_1).f1.f1), .int .i64 ((rd_T105 l0_0 x3_1).f2), .int .i64 ((rd_T105 l0_0 x3_1).f3)] 105 (0, 0)) (bk_ BK145) hb); replace HB := hbs_ hb; clear hb; have hcz18 := blk_cell BK145.out; have hfz18 := blk_frozen BK145.out))
          go_roundg k1
          case measure => have := HK1.out; omega
          case rel => exact ⟨(wrap64 (x3_1 + 1)), (by first | rfl | (simp; done) | (simp [*]; done)), H', ⟨by have := HK1.out; omega⟩, ⟨bk_ BK142⟩, ⟨bl_⟩⟩
         ·rw [if_neg c12] at H
          have c12b0 : (((rd_T105 l0_0 x3_1).f3) == 0) = false := beq_eq_false_iff_ne.mpr c12
          have c12b1 : (((rd_T105 l0_0 x3_1).f3) != 0) = true := bne_iff_ne.mpr c12
          obtain rfl := Option.some.inj H
          have hcz19 := blk_cell BK142.out
          have hfz19 := blk_frozen BK142.out
          have p144 : 0 ≤ (x3_1 : Int) := of_decide_eq_true (by first | (with_reducible assumption) | assumption)
          have q144 : x3_1 < (l0_0.length : Int) := of_decide_eq_true (by first | (with_reducible assumption) | assumption)
          obtain ⟨ad144, e144, hx144_0, hx144_1, hx144_2, hx144_3, hx144_4⟩ := at_T105 (Kd.C_below HR0_0.out HB.out) x3_1 p144 q144
          cases e144
          replace p144 := eq_true p144
          replace q144 := eq_true q144
          go_wp2_with (first | ((with_reducible refine gate_dst (N := 4) rfl ?_); refine box_event ?hg (N := 4) ?hd (cs := #[.int .i64 0, .int .i64 0, .int .i64 0, .int .i64 0, .int .i64 0]) (t := 105) ?hr ?_; (case hd => rfl); (case hg => rfl); (case hr => first | (go_simp; done) | (go_simp; rfl)); intro gb145 hg w20 hbox hb; have BK145 := Aside0.mk (hbox); have GW145 := gs_ hg; have GE145 := gs_ hg; replace HB := hbs_ hb; have NB142_145 := Aside0.mk ((by rw [hg]; exact Nat.ne_of_lt (blk_lt (g := gb142) (o := .cells #[.slice (some ad144) l0_0.length c0_0] 39 (0, 0)) (bk_ BK142)) : gb142 ≠ gb145)); have NB145_142 := Aside0.mk ((by rw [hg]; exact Nat.ne_of_gt (blk_lt (g := gb142) (o := .cells #[.slice (some ad144) l0_0.length c0_0] 39 (0, 0)) (bk_ BK142)) : gb145 ≠ gb142)); replace BK142 := bkb_ BK142 hb; clear hb hbox hg; have hnb21 := NB145_142.out; have hnc21 := NB142_145.out; have hcz22 := blk_cell BK145.out; have hfz22 := blk_frozen BK145.out) | ((with_reducible refine gate_callee (f := 76) rfl ?_); refine goesC_ (some 28) Try.func76 #[.agg #[.int .i64 ((rd_T105 l0_0 x3_1).f1.f0), .int .i64 ((rd_T105 l0_0 x3_1).f1.f1)]] ?_; (with_reducible refine (spec_RoleOk.calls ((rd_T105 l0_0 x3_1).f1.f0) ((rd_T105 l0_0 x3_1).f1.f1) true _ A9.out).mono ?_); rintro e w23 ⟨rfl, hb⟩; refine ⟨_, rfl, ?_⟩; replace BK142 := Aside0.mk (blk_below (g := gb142) (o := .cells #[.slice (some ad144) l0_0.length c0_0] 39 (0, 0)) (bk_ BK142) hb); replace BK145 := Aside0.mk (blk_below (g := gb145) (o := .cells #[.int .i64 ((rd_T105 l0_0 x3_1).f0), .int .i64 ((rd_T105 l0_0 x3_1).f1.f0), .int .i64 ((rd_T105 l0_0 x3_1).f1.f1), .int .i64 ((rd_T105 l0_0 x3_1).f2), .int .i64 ((rd_T105 l0_0 x3_1).f3)] 105 (0, 0)) (bk_ BK145) hb); replace HB := hbs_ hb; clear hb; have hcz24 := blk_cell BK145.out; have hfz24 := blk_frozen BK145.out))
          go_ret
          exact ⟨eq_, bl_⟩
        ·rw [if_neg c11] at H
         have c11b0 : (((rd_T105 l0_0 x3_1).f2) == 0) = false := beq_eq_false_iff_ne.mpr c11
         have c11b1 : (((rd_T105 l0_0 x3_1).f2) != 0) = true := bne_iff_ne.mpr c11
         obtain rfl := Option.some.inj H
         have hcz25 := blk_cell BK142.out
         have hfz25 := blk_frozen BK142.out
         have p144 : 0 ≤ (x3_1 : Int) := of_decide_eq_true (by first | (with_reducible assumption) | assumption)
         have q144 : x3_1 < (l0_0.length : Int) := of_decide_eq_true (by first | (with_reducible assumption) | assumption)
         obtain ⟨ad144, e144, hx144_0, hx144_1, hx144_2, hx144_3, hx144_4⟩ := at_T105 (Kd.C_below HR0_0.out HB.out) x3_1 p144 q144
         cases e144
         replace p144 := eq_true p144
         replace q144 := eq_true q144
         go_wp2_with (first | ((with_reducible refine gate_dst (N := 4) rfl ?_); refine box_event ?hg (N := 4) ?hd (cs := #[.int .i64 0, .int .i64 0, .int .i64 0, .int .i64 0, .int .i64 0]) (t := 105) ?hr ?_; (case hd => rfl); (case hg => rfl); (case hr => first | (go_simp; done) | (go_simp; rfl)); intro gb145 hg w26 hbox hb; have BK145 := Aside0.mk (hbox); have GW145 := gs_ hg; have GE145 := gs_ hg; replace HB := hbs_ hb; have NB142_145 := Aside0.mk ((by rw [hg]; exact Nat.ne_of_lt (blk_lt (g := gb142) (o := .cells #[.slice (some ad144) l0_0.length c0_0] 39 (0, 0)) (bk_ BK142)) : gb142 ≠ gb145)); have NB145_142 := Aside0.mk ((by rw [hg]; exact Nat.ne_of_gt (blk_lt (g := gb142) (o := .cells #[.slice (some ad144) l0_0.length c0_0] 39 (0, 0)) (bk_ BK142)) : gb145 ≠ gb142)); replace BK142 := bkb_ BK142 hb; clear hb hbox hg; have hnb27 := NB145_142.out; have hnc27 := NB142_145.out; have hcz28 := blk_cell BK145.out; have hfz28 := blk_frozen BK145.out) | ((with_reducible refine gate_callee (f := 76) rfl ?_); refine goesC_ (some 28) Try.func76 #[.agg #[.int .i64 ((rd_T105 l0_0 x3_1).f1.f0), .int .i64 ((rd_T105 l0_0 x3_1).f1.f1)]] ?_; (with_reducible refine (spec_RoleOk.calls ((rd_T105 l0_0 x3_1).f1.f0) ((rd_T105 l0_0 x3_1).f1.f1) true _ A9.out).mono ?_); rintro e w29 ⟨rfl, hb⟩; refine ⟨_, rfl, ?_⟩; replace BK142 := Aside0.mk (blk_below (g := gb142) (o := .cells #[.slice (some ad144) l0_0.length c0_0] 39 (0, 0)) (bk_ BK142) hb); replace BK145 := Aside0.mk (blk_below (g := gb145) (o := .cells #[.int .i64 ((rd_T105 l0_0 x3_1).f0), .int .i64 ((rd_T105 l0_0 x3_1).f1.f0), .int .i64 ((rd_T105 l0_0 x3_1).f1.f1), .int .i64 ((rd_T105 l0_0 x3_1).f2), .int .i64 ((rd_T105 l0_0 x3_1).f3)] 105 (0, 0)) (bk_ BK145) hb); replace HB := hbs_ hb; clear hb; have hcz30 := blk_cell BK145.out; have hfz30 := blk_frozen BK145.out))
         go_ret
         exact ⟨eq_, bl_⟩
       ·replace c10 := Bool.eq_false_iff.mpr c10
        subst c10
        replace H := ite_f_ H
        obtain rfl := Option.some.inj H
        have hcz31 := blk_cell BK142.out
        have hfz31 := blk_frozen BK142.out
        have p144 : 0 ≤ (x3_1 : Int) := of_decide_eq_true (by first | (with_reducible assumption) | assumption)
        have q144 : x3_1 < (l0_0.length : Int) := of_decide_eq_true (by first | (with_reducible assumption) | assumption)
        obtain ⟨ad144, e144, hx144_0, hx144_1, hx144_2, hx144_3, hx144_4⟩ := at_T105 (Kd.C_below HR0_0.out HB.out) x3_1 p144 q144
        cases e144
        replace p144 := eq_true p144
        replace q144 := eq_true q144
        go_wp2_with (first | ((with_reducible refine gate_dst (N := 4) rfl ?_); refine box_event ?hg (N := 4) ?hd (cs := #[.int .i64 0, .int .i64 0, .int .i64 0, .int .i64 0, .int .i64 0]) (t := 105) ?hr ?_; (case hd => rfl); (case hg => rfl); (case hr => first | (go_simp; done) | (go_simp; rfl)); intro gb145 hg w32 hbox hb; have BK145 := Aside0.mk (hbox); have GW145 := gs_ hg; have GE145 := gs_ hg; replace HB := hbs_ hb; have NB142_145 := Aside0.mk ((by rw [hg]; exact Nat.ne_of_lt (blk_lt (g := gb142) (o := .cells #[.slice (some ad144) l0_0.length c0_0] 39 (0, 0)) (bk_ BK142)) : gb142 ≠ gb145)); have NB145_142 := Aside0.mk ((by rw [hg]; exact Nat.ne_of_gt (blk_lt (g := gb142) (o := .cells #[.slice (some ad144) l0_0.length c0_0] 39 (0, 0)) (bk_ BK142)) : gb145 ≠ gb142)); replace BK142 := bkb_ BK142 hb; clear hb hbox hg; have hnb33 := NB145_142.out; have hnc33 := NB142_145.out; have hcz34 := blk_cell BK145.out; have hfz34 := blk_frozen BK145.out) | ((with_reducible refine gate_callee (f := 76) rfl ?_); refine goesC_ (some 28) Try.func76 #[.agg #[.int .i64 ((rd_T105 l0_0 x3_1).f1.f0), .int .i64 ((rd_T105 l0_0 x3_1).f1.f1)]] ?_; (with_reducible refine (spec_RoleOk.calls ((rd_T105 l0_0 x3_1).f1.f0) ((rd_T105 l0_0 x3_1).f1.f1) false _ A9.out).mono ?_); rintro e w35 ⟨rfl, hb⟩; refine ⟨_, rfl, ?_⟩; replace BK142 := Aside0.mk (blk_below (g := gb142) (o := .cells #[.slice (some ad144) l0_0.length c0_0] 39 (0, 0)) (bk_ BK142) hb); replace BK145 := Aside0.mk (blk_below (g := gb145) (o := .cells #[.int .i64 ((rd_T105 l0_0 x3_1).f0), .int .i64 ((rd_T105 l0_0 x3_1).f1.f0), .int .i64 ((rd_T105 l0_0 x3_1).f1.f1), .int .i64 ((rd_T105 l0_0 x3_1).f2), .int .i64 ((rd_T105 l0_0 x3_1).f3)] 105 (0, 0)) (bk_ BK145) hb); replace HB := hbs_ hb; clear hb))
        go_ret
        exact ⟨eq_, bl_⟩
      ·rw [if_neg c8] at H
       have c8b0 : (((rd_T105 l0_0 x3_1).f0) == 1) = false := beq_eq_false_iff_ne.mpr c8
       have c8b1 : (((rd_T105 l0_0 x3_1).f0) != 1) = true := bne_iff_ne.mpr c8
       have HC36 := Aside0.mk H
       clear H
       have hcz37 := blk_cell BK142.out
       have hfz37 := blk_frozen BK142.out
       have p144 : 0 ≤ (x3_1 : Int) := of_decide_eq_true (by first | (with_reducible assumption) | assumption)
       have q144 : x3_1 < (l0_0.length : Int) := of_decide_eq_true (by first | (with_reducible assumption) | assumption)
       obtain ⟨ad144, e144, hx144_0, hx144_1, hx144_2, hx144_3, hx144_4⟩ := at_T105 (Kd.C_below HR0_0.out HB.out) x3_1 p144 q144
       cases e144
       replace p144 := eq_true p144
       replace q144 := eq_true q144
       go_upto_if 40 with (first | ((with_reducible refine gate_dst (N := 4) rfl ?_); refine box_event ?hg (N := 4) ?hd (cs := #[.int .i64 0, .int .i64 0, .int .i64 0, .int .i64 0, .int .i64 0]) (t := 105) ?hr ?_; (case hd => rfl); (case hg => rfl); (case hr => first | (go_simp; done) | (go_simp; rfl)); intro gb145 hg w38 hbox hb; have BK145 := Aside0.mk (hbox); have GW145 := gs_ hg; have GE145 := gs_ hg; replace HB := hbs_ hb; have NB142_145 := Aside0.mk ((by rw [hg]; exact Nat.ne_of_lt (blk_lt (g := gb142) (o := .cells #[.slice (some ad144) l0_0.length c0_0] 39 (0, 0)) (bk_ BK142)) : gb142 ≠ gb145)); have NB145_142 := Aside0.mk ((by rw [hg]; exact Nat.ne_of_gt (blk_lt (g := gb142) (o := .cells #[.slice (some ad144) l0_0.length c0_0] 39 (0, 0)) (bk_ BK142)) : gb145 ≠ gb142)); replace BK142 := bkb_ BK142 hb; clear hb hbox hg; have hnb39 := NB145_142.out; have hnc39 := NB142_145.out; have hcz40 := blk_cell BK145.out; have hfz40 := blk_frozen BK145.out))
       (try simp only [Act.put, List.setIfInBounds_toArray, List.set_cons_zero, List.set_cons_succ])
       go_cut [40] (fun v40 wc => ∃ (kq : Nat) (x40_35 : Bool), v40 = .bool x40_35 ∧ Aside0 (spec_PolicyOk.j1 kq x3_1 ((rd_T105 l0_0 x3_1).f0) x40_35 l0_0 ((rd_T105 l0_0 x3_1).f0) ((rd_T105 l0_0 x3_1).f1.f0) ((rd_T105 l0_0 x3_1).f1.f1) ((rd_T105 l0_0 x3_1).f2) ((rd_T105 l0_0 x3_1).f3) = some r) ∧ Aside0 (kq ≤ k1) ∧ Aside0 (wc.heap[gb142]? = some (.cells #[(.slice (some ad144) l0_0.length c0_0)] 39 (0, 0))) ∧ Aside0 (wc.heap[gb145]? = some (.cells #[.int .i64 ((rd_T105 l0_0 x3_1).f0), .int .i64 ((rd_T105 l0_0 x3_1).f1.f0), .int .i64 ((rd_T105 l0_0 x3_1).f1.f1), .int .i64 ((rd_T105 l0_0 x3_1).f2), .int .i64 ((rd_T105 l0_0 x3_1).f3)] 105 (0, 0))) ∧ Aside0 (Below w.heap.size w wc))
       case first =>
        have H := HC36.out
        clear HC36
        by_cases c41 : ((rd_T105 l0_0 x3_1).f0) = 2
        ·rw [if_pos c41] at H
         have c41b0 : (((rd_T105 l0_0 x3_1).f0) == 2) = true := beq_iff_eq.mpr c41
         have c41b1 : (((rd_T105 l0_0 x3_1).f0) != 2) = false := bne_eq_false_iff_eq.mpr c41
         clear c41
         (first | rw [c41b0] | (simp only [i64_w, i32_w]; rw [c41b0]) | skip)
         have H' := Aside0.mk H
         clear H
         go_wp2
         go_meet
         case rel => exact ⟨_, ((((rd_T105 l0_0 x3_1).f0) == 2)), (by first | rfl | (simp; done) | (simp [*]; done)), H', ⟨by have := HK1.out; first | omega | exact Nat.le_refl _⟩, ⟨bk_ BK142⟩, ⟨bk_ BK145⟩, ⟨bl_⟩⟩
        ·rw [if_neg c41] at H
         have c41b0 : (((rd_T105 l0_0 x3_1).f0) == 2) = false := beq_eq_false_iff_ne.mpr c41
         have c41b1 : (((rd_T105 l0_0 x3_1).f0) != 2) = true := bne_iff_ne.mpr c41
         (first | rw [c41b0] | (simp only [i64_w, i32_w]; rw [c41b0]) | skip)
         have H' := Aside0.mk H
         clear H
         go_wp2
         go_meet
         case rel => exact ⟨_, ((((rd_T105 l0_0 x3_1).f0) == 3)), (by first | rfl | (simp; done) | (simp [*]; done)), H', ⟨by have := HK1.out; first | omega | exact Nat.le_refl _⟩, ⟨bk_ BK142⟩, ⟨bk_ BK145⟩, ⟨bl_⟩⟩
       case rest =>
        clear HC36
        try clear c1
        try clear p1
        try clear q1
        try clear hx1
        try clear c2
        try clear p2
        try clear c3
        try clear c4
        try clear c6
        try clear c6b0
        try clear p6
        try clear c7
        try clear c7b0
        try clear c8
        try clear c8b0
        try clear c8b1
        try clear c10
        try clear c11
        try clear c11b0
        try clear c11b1
        try clear c12
        try clear c12b0
        try clear c12b1
        try clear p14
        try clear q14
        try clear hx14
        try clear c15
        try clear c19
        try clear c21
        try clear c27
        try clear c33
        try clear c39
        try clear c41
        try clear c41b0
        try clear c41b1
        try clear hcz13
        try clear hcz16
        try clear hcz18
        try clear hcz19
        try clear hcz22
        try clear hcz24
        try clear hcz25
        try clear hcz28
        try clear hcz30
        try clear hcz31
        try clear hcz34
        try clear hcz37
        try clear hcz40
        try clear hcz5
        try clear hfz13
        try clear hfz16
        try clear hfz18
        try clear hfz19
        try clear hfz22
        try clear hfz24
        try clear hfz25
        try clear hfz28
        try clear hfz30
        try clear hfz31
        try clear hfz34
        try clear hfz37
        try clear hfz40
        try clear hfz5
        try clear hx144_0
        try clear hx144_1
        try clear hx144_2
        try clear hx144_3
        try clear hx144_4
        try clear p144
        try clear p2
        try clear q144
        obtain ⟨kq, x40_35, rfl, HA, HJ35, BK142, BK145, HB⟩ := hcut
        cases kq with
        | zero => exact absurd HA.out (by simp [spec_PolicyOk.j1])
        | succ kj35 =>
         have H := HA.out
         clear HA
         simp only [spec_PolicyOk.j1] at H
         by_cases c42 : x40_35 = true
         ·subst c42
          replace H := ite_t_ H
          obtain ⟨t147, A43, H⟩ := bindE_ H
          by_cases c44 : t147 = true
          ·subst c44
           replace H := ite_t_ H
           obtain ⟨t148, A45, H⟩ := bindE_ H
           by_cases c46 : t148 = true
           ·subst c46
            replace H := ite_t_ H
            obtain ⟨t149, A47, H⟩ := bindE_ H
            by_cases c48 : t149 = true
            ·subst c48
             replace H := ite_t_ H
             have H' := Aside0.mk H
             clear H
             have hnb49 := NB145_142.out
             have hnc49 := NB142_145.out
             have hcz50 := blk_cell BK145.out
             have hfz50 := blk_frozen BK145.out
             go_wp2_with (first | ((with_reducible refine gate_callee (f := 77) rfl ?_); refine goesC_ (some 45) Try.func77 #[.agg #[.int .i64 ((rd_T105 l0_0 x3_1).f1.f0), .int .i64 ((rd_T105 l0_0 x3_1).f1.f1)]] ?_; (with_reducible refine (spec_l21None.calls ((rd_T105 l0_0 x3_1).f1.f0) ((rd_T105 l0_0 x3_1).f1.f1) true _ A43.out).mono ?_); rintro e w51 ⟨rfl, hb⟩; refine ⟨_, rfl, ?_⟩; replace BK142 := bkb_ BK142 hb; replace BK145 := bkb_ BK145 hb; replace HB := hbs_ hb; clear hb; have hcz52 := blk_cell BK145.out; have hfz52 := blk_frozen BK145.out) | (go_at_call 75; (with_reducible refine (spec_l01In.calls ((rd_T105 l0_0 x3_1).f2) 0 (wrap64 (x3_1 - 1)) true _ A45.out).mono ?_); rintro e w' ⟨rfl, ⟨nd, rfl⟩⟩) | (go_at_call 75; (with_reducible refine (spec_l01In.calls ((rd_T105 l0_0 x3_1).f3) 0 (wrap64 (x3_1 - 1)) true _ A47.out).mono ?_); rintro e w' ⟨rfl, ⟨nd, rfl⟩⟩))
             go_roundg kj35
             case measure => have := HK1.out; have := HJ35.out; omega
             case rel => exact ⟨(wrap64 (x3_1 + 1)), (by first | rfl | (simp; done) | (simp [*]; done)), H', ⟨by have := HK1.out; have := HJ35.out; omega⟩, ⟨bk_ BK142⟩, ⟨bl_⟩⟩
            ·replace c48 := Bool.eq_false_iff.mpr c48
             subst c48
             replace H := ite_f_ H
             obtain rfl := Option.some.inj H
             have hnb53 := NB145_142.out
             have hnc53 := NB142_145.out
             have hcz54 := blk_cell BK145.out
             have hfz54 := blk_frozen BK145.out
             go_wp2_with (first | ((with_reducible refine gate_callee (f := 77) rfl ?_); refine goesC_ (some 45) Try.func77 #[.agg #[.int .i64 ((rd_T105 l0_0 x3_1).f1.f0), .int .i64 ((rd_T105 l0_0 x3_1).f1.f1)]] ?_; (with_reducible refine (spec_l21None.calls ((rd_T105 l0_0 x3_1).f1.f0) ((rd_T105 l0_0 x3_1).f1.f1) true _ A43.out).mono ?_); rintro e w55 ⟨rfl, hb⟩; refine ⟨_, rfl, ?_⟩; replace BK142 := bkb_ BK142 hb; replace BK145 := bkb_ BK145 hb; replace HB := hbs_ hb; clear hb; have hcz56 := blk_cell BK145.out; have hfz56 := blk_frozen BK145.out) | (go_at_call 75; (with_reducible refine (spec_l01In.calls ((rd_T105 l0_0 x3_1).f2) 0 (wrap64 (x3_1 - 1)) true _ A45.out).mono ?_); rintro e w' ⟨rfl, ⟨nd, rfl⟩⟩) | (go_at_call 75; (with_reducible refine (spec_l01In.calls ((rd_T105 l0_0 x3_1).f3) 0 (wrap64 (x3_1 - 1)) false _ A47.out).mono ?_); rintro e w' ⟨rfl, ⟨nd, rfl⟩⟩))
             go_ret
             exact ⟨eq_, bl_⟩
           ·replace c46 := Bool.eq_false_iff.mpr c46
            subst c46
            replace H := ite_f_ H
            obtain rfl := Option.some.inj H
            have hnb57 := NB145_142.out
            have hnc57 := NB142_145.out
            have hcz58 := blk_cell BK145.out
            have hfz58 := blk_frozen BK145.out
            go_wp2_with (first | ((with_reducible refine gate_callee (f := 77) rfl ?_); refine goesC_ (some 45) Try.func77 #[.agg #[.int .i64 ((rd_T105 l0_0 x3_1).f1.f0), .int .i64 ((rd_T105 l0_0 x3_1).f1.f1)]] ?_; (with_reducible refine (spec_l21None.calls ((rd_T105 l0_0 x3_1).f1.f0) ((rd_T105 l0_0 x3_1).f1.f1) true _ A43.out).mono ?_); rintro e w59 ⟨rfl, hb⟩; refine ⟨_, rfl, ?_⟩; replace BK142 := bkb_ BK142 hb; replace BK145 := bkb_ BK145 hb; replace HB := hbs_ hb; clear hb; have hcz60 := blk_cell BK145.out; have hfz60 := blk_frozen BK145.out) | (go_at_call 75; (with_reducible refine (spec_l01In.calls ((rd_T105 l0_0 x3_1).f2) 0 (wrap64 (x3_1 - 1)) false _ A45.out).mono ?_); rintro e w' ⟨rfl, ⟨nd, rfl⟩⟩))
            go_ret
            exact ⟨eq_, bl_⟩
          ·replace c44 := Bool.eq_false_iff.mpr c44
           subst c44
           replace H := ite_f_ H
           obtain rfl := Option.some.inj H
           have hnb61 := NB145_142.out
           have hnc61 := NB142_145.out
           have hcz62 := blk_cell BK145.out
           have hfz62 := blk_frozen BK145.out
           go_wp2_with (first | ((with_reducible refine gate_callee (f := 77) rfl ?_); refine goesC_ (some 45) Try.func77 #[.agg #[.int .i64 ((rd_T105 l0_0 x3_1).f1.f0), .int .i64 ((rd_T105 l0_0 x3_1).f1.f1)]] ?_; (with_reducible refine (spec_l21None.calls ((rd_T105 l0_0 x3_1).f1.f0) ((rd_T105 l0_0 x3_1).f1.f1) false _ A43.out).mono ?_); rintro e w63 ⟨rfl, hb⟩; refine ⟨_, rfl, ?_⟩; replace BK142 := bkb_ BK142 hb; replace BK145 := bkb_ BK145 hb; replace HB := hbs_ hb; clear hb))
           go_ret
           exact ⟨eq_, bl_⟩
         ·replace c42 := Bool.eq_false_iff.mpr c42
          subst c42
          replace H := ite_f_ H
          by_cases c64 : ((rd_T105 l0_0 x3_1).f0) = 4
          ·rw [if_pos c64] at H
           have c64b0 : (((rd_T105 l0_0 x3_1).f0) == 4) = true := beq_iff_eq.mpr c64
           have c64b1 : (((rd_T105 l0_0 x3_1).f0) != 4) = false := bne_eq_false_iff_eq.mpr c64
           clear c64
           obtain ⟨t150, A65, H⟩ := bindE_ H
           by_cases c66 : t150 = true
           ·subst c66
            replace H := ite_t_ H
            obtain ⟨t151, A67, H⟩ := bindE_ H
            by_cases c68 : t151 = true
            ·subst c68
             replace H := ite_t_ H
             by_cases c69 : ((rd_T105 l0_0 x3_1).f3) = 0
             ·rw [if_pos c69] at H
              have c69b0 : (((rd_T105 l0_0 x3_1).f3) == 0) = true := beq_iff_eq.mpr c69
              have c69b1 : (((rd_T105 l0_0 x3_1).f3) != 0) = false := bne_eq_false_iff_eq.mpr c69
              clear c69
              have H' := Aside0.mk H
              clear H
              have hnb70 := NB145_142.out
              have hnc70 := NB142_145.out
              have hcz71 := blk_cell BK145.out
              have hfz71 := blk_frozen BK145.out
              go_wp2_with (first | ((with_reducible refine gate_callee (f := 77) rfl ?_); refine goesC_ (some 67) Try.func77 #[.agg #[.int .i64 ((rd_T105 l0_0 x3_1).f1.f0), .int .i64 ((rd_T105 l0_0 x3_1).f1.f1)]] ?_; (with_reducible refine (spec_l21None.calls ((rd_T105 l0_0 x3_1).f1.f0) ((rd_T105 l0_0 x3_1).f1.f1) true _ A65.out).mono ?_); rintro e w72 ⟨rfl, hb⟩; refine ⟨_, rfl, ?_⟩; replace BK142 := bkb_ BK142 hb; replace BK145 := bkb_ BK145 hb; replace HB := hbs_ hb; clear hb; have hcz73 := blk_cell BK145.out; have hfz73 := blk_frozen BK145.out) | (go_at_call 75; (with_reducible refine (spec_l01In.calls ((rd_T105 l0_0 x3_1).f2) 0 (wrap64 (x3_1 - 1)) true _ A67.out).mono ?_); rintro e w' ⟨rfl, ⟨nd, rfl⟩⟩))
              go_roundg kj35
              case measure => have := HK1.out; have := HJ35.out; omega
              case rel => exact ⟨(wrap64 (x3_1 + 1)), (by first | rfl | (simp; done) | (simp [*]; done)), H', ⟨by have := HK1.out; have := HJ35.out; omega⟩, ⟨bk_ BK142⟩, ⟨bl_⟩⟩
             ·rw [if_neg c69] at H
              have c69b0 : (((rd_T105 l0_0 x3_1).f3) == 0) = false := beq_eq_false_iff_ne.mpr c69
              have c69b1 : (((rd_T105 l0_0 x3_1).f3) != 0) = true := bne_iff_ne.mpr c69
              obtain rfl := Option.some.inj H
              have hnb74 := NB145_142.out
              have hnc74 := NB142_145.out
              have hcz75 := blk_cell BK145.out
              have hfz75 := blk_frozen BK145.out
              go_wp2_with (first | ((with_reducible refine gate_callee (f := 77) rfl ?_); refine goesC_ (some 67) Try.func77 #[.agg #[.int .i64 ((rd_T105 l0_0 x3_1).f1.f0), .int .i64 ((rd_T105 l0_0 x3_1).f1.f1)]] ?_; (with_reducible refine (spec_l21None.calls ((rd_T105 l0_0 x3_1).f1.f0) ((rd_T105 l0_0 x3_1).f1.f1) true _ A65.out).mono ?_); rintro e w76 ⟨rfl, hb⟩; refine ⟨_, rfl, ?_⟩; replace BK142 := bkb_ BK142 hb; replace BK145 := bkb_ BK145 hb; replace HB := hbs_ hb; clear hb; have hcz77 := blk_cell BK145.out; have hfz77 := blk_frozen BK145.out) | (go_at_call 75; (with_reducible refine (spec_l01In.calls ((rd_T105 l0_0 x3_1).f2) 0 (wrap64 (x3_1 - 1)) true _ A67.out).mono ?_); rintro e w' ⟨rfl, ⟨nd, rfl⟩⟩))
              go_ret
              exact ⟨eq_, bl_⟩
            ·replace c68 := Bool.eq_false_iff.mpr c68
             subst c68
             replace H := ite_f_ H
             obtain rfl := Option.some.inj H
             have hnb78 := NB145_142.out
             have hnc78 := NB142_145.out
             have hcz79 := blk_cell BK145.out
             have hfz79 := blk_frozen BK145.out
             go_wp2_with (first | ((with_reducible refine gate_callee (f := 77) rfl ?_); refine goesC_ (some 67) Try.func77 #[.agg #[.int .i64 ((rd_T105 l0_0 x3_1).f1.f0), .int .i64 ((rd_T105 l0_0 x3_1).f1.f1)]] ?_; (with_reducible refine (spec_l21None.calls ((rd_T105 l0_0 x3_1).f1.f0) ((rd_T105 l0_0 x3_1).f1.f1) true _ A65.out).mono ?_); rintro e w80 ⟨rfl, hb⟩; refine ⟨_, rfl, ?_⟩; replace BK142 := bkb_ BK142 hb; replace BK145 := bkb_ BK145 hb; replace HB := hbs_ hb; clear hb; have hcz81 := blk_cell BK145.out; have hfz81 := blk_frozen BK145.out) | (go_at_call 75; (with_reducible refine (spec_l01In.calls ((rd_T105 l0_0 x3_1).f2) 0 (wrap64 (x3_1 - 1)) false _ A67.out).mono ?_); rintro e w' ⟨rfl, ⟨nd, rfl⟩⟩))
             go_ret
             exact ⟨eq_, bl_⟩
           ·replace c66 := Bool.eq_false_iff.mpr c66
            subst c66
            replace H := ite_f_ H
            obtain rfl := Option.some.inj H
            have hnb82 := NB145_142.out
            have hnc82 := NB142_145.out
            have hcz83 := blk_cell BK145.out
            have hfz83 := blk_frozen BK145.out
            go_wp2_with (first | ((with_reducible refine gate_callee (f := 77) rfl ?_); refine goesC_ (some 67) Try.func77 #[.agg #[.int .i64 ((rd_T105 l0_0 x3_1).f1.f0), .int .i64 ((rd_T105 l0_0 x3_1).f1.f1)]] ?_; (with_reducible refine (spec_l21None.calls ((rd_T105 l0_0 x3_1).f1.f0) ((rd_T105 l0_0 x3_1).f1.f1) false _ A65.out).mono ?_); rintro e w84 ⟨rfl, hb⟩; refine ⟨_, rfl, ?_⟩; replace BK142 := bkb_ BK142 hb; replace BK145 := bkb_ BK145 hb; replace HB := hbs_ hb; clear hb))
            go_ret
            exact ⟨eq_, bl_⟩
          ·rw [if_neg c64] at H
           have c64b0 : (((rd_T105 l0_0 x3_1).f0) == 4) = false := beq_eq_false_iff_ne.mpr c64
           have c64b1 : (((rd_T105 l0_0 x3_1).f0) != 4) = true := bne_iff_ne.mpr c64
           obtain rfl := Option.some.inj H
           go_wp2
           go_ret
           exact ⟨eq_, bl_⟩
     ·rw [if_neg c7] at H
      exact absurd H (by simp)
    ·rw [if_neg c6] at H
     have c6b0 : decide (x3_1 < (l0_0.length : Int)) = false := decide_eq_false c6
     clear c6
     obtain rfl := Option.some.inj H
     have hcz85 := blk_cell BK142.out
     have hfz85 := blk_frozen BK142.out
     go_wp2
     go_ret
     exact ⟨eq_, bl_⟩
 ·replace c3 := Bool.eq_false_iff.mpr c3
  subst c3
  replace H := ite_f_ H
  obtain rfl := Option.some.inj H
  go_enter Try.func19, Try.ntmps19
  go_wp2_with (first | ((with_reducible refine gate_dst (N := 1) rfl ?_); refine box_event ?hg (N := 1) ?hd (cs := #[.slice A0_0 l0_0.length c0_0]) (t := 39) ?hr ?_; (case hd => rfl); (case hg => rfl); (case hr => first | (go_simp; done) | (go_simp; rfl)); intro gb142 hg w86 hbox hb; have BK142 := Aside0.mk (hbox); have GW142 := gs_ hg; have GE142 := gs_ hg; replace HB := hbs_ hb; clear hb hbox hg; have hcz87 := blk_cell BK142.out; have hfz87 := blk_frozen BK142.out) | ((with_reducible refine gate_callee (f := 75) rfl ?_); refine goesC_ (some 8) Try.func75 #[.int .i64 (l0_0.length : Int), .int .i64 1, .int .i64 40] ?_; (with_reducible refine (spec_l01In.calls (l0_0.length : Int) 1 40 false _ A2.out).mono ?_); rintro e w' ⟨rfl, ⟨nd, rfl⟩⟩; refine ⟨_, rfl, ?_⟩))
  go_ret
  exact ⟨eq_, bl_⟩
mutual
def spec_l21Below.l0 : Nat → List Bool → Int → List (S105) → Option (List Bool)
 | 0, _, _, _ => none
 | k + 1, x4, x5, x153000 => if x5 ≥ 0 then (if 0 ≤ x5 then (if x5 < (x153000.length : Int) then (if x5 < (x4.length : Int) then (if rdOf false x4 x5 = true then (spec_l21Below.j1 k x4 x5 (((rd_T105 x153000 x5).f0) == 1) x153000 ((rd_T105 x153000 x5).f0) ((rd_T105 x153000 x5).f1.f0) ((rd_T105 x153000 x5).f1.f1) ((rd_T105 x153000 x5).f2) ((rd_T105 x153000 x5).f3)) else (spec_l21Below.j1 k x4 x5 true x153000 ((rd_T105 x153000 x5).f0) ((rd_T105 x153000 x5).f1.f0) ((rd_T105 x153000 x5).f1.f1) ((rd_T105 x153000 x5).f2) ((rd_T105 x153000 x5).f3))) else (none)) else (none)) else (none)) else (some x4)
def spec_l21Below.j1 : Nat → List Bool → Int → Bool → List (S105) → Int → Int → Int → Int → Int → Option (List Bool)
 | 0, _, _, _, _, _, _, _, _, _ => none
 | k + 1, x4, x5, x36, x153000, x159000, x159001, x159002, x159003, x159004 => if x36 = true then (spec_l21Below.l0 k x4 (wrap64 (x5 - 1)) x153000) else (if 0 ≤ x159003 then (if x159003 < (x4.length : Int) then ((some (x4.set (x159003 : Int).toNat true : List Bool)).bind fun y160 => (if x159000 = 4 then (spec_l21Below.l0 k y160 (wrap64 (x5 - 1)) x153000) else (if 0 ≤ x159004 then (if x159004 < (x4.length : Int) then (spec_l21Below.l0 k (y160.set (x159004 : Int).toNat true) (wrap64 (x5 - 1)) x153000) else (none)) else (none)))) else (none)) else (none))
end
def spec_l21Below.f (k : Nat) (l0_0 : List (S105)) : Option (List Bool) := if 0 ≤ (l0_0.length : Int) then (if ((l0_0.length : Int) : Int).toNat ≤ 281474976710656 then ((some (List.replicate ((l0_0.length : Int) : Int).toNat false : List Bool)).bind fun y153 => (if 0 ≤ (wrap64 ((l0_0.length : Int) - 1)) then (if (wrap64 ((l0_0.length : Int) - 1)) < (y153.length : Int) then (spec_l21Below.l0 k (y153.set ((wrap64 ((l0_0.length : Int) - 1)) : Int).toNat true) (wrap64 ((l0_0.length : Int) - 1)) l0_0) else (none)) else (none))) else (none)) else (none)
set_option maxHeartbeats 8000000 in
set_option maxRecDepth 100000 in
theorem spec_l21Below.calls (k : Nat) (A0_0 : Option Addr) (c0_0 : Nat) (l0_0 : List (S105)) (r : List Bool) (w : World) (hr0_0 : Kd.C k105 w A0_0 l0_0.length l0_0) (hc0_0 : l0_0.length ≤ c0_0) (h : spec_l21Below.f k l0_0 = some r) :
  Calls Try.prog 84 #[.agg #[.slice A0_0 l0_0.length c0_0]] w fun e w' => ∃ v0_ : Value, e = .returned (v0_) ∧ Kd.R Kd.bool 4 w' w.heap.size (fun _ => True) v0_ r ∧ Below w.heap.size w w' := by
 have hu39 := Try.underlying39
 have hu105 := Try.underlying105
 have HR0_0 := Aside0.mk hr0_0
 have HC0_0 := Aside0.mk hc0_0
 clear hr0_0 hc0_0
 have HB := Aside0.mk (Below.refl w.heap.size w)
 have H : (if 0 ≤ (l0_0.length : Int) then (if ((l0_0.length : Int) : Int).toNat ≤ 281474976710656 then ((some (List.replicate ((l0_0.length : Int) : Int).toNat false : List Bool)).bind fun y153 => (if 0 ≤ (wrap64 ((l0_0.length : Int) - 1)) then (if (wrap64 ((l0_0.length : Int) - 1)) < (y153.length : Int) then (spec_l21Below.l0 k (y153.set ((wrap64 ((l0_0.length : Int) - 1)) : Int).toNat true) (wrap64 ((l0_0.length : Int) - 1)) l0_0) else (none)) else (none))) else (none)) else (none)) = some r := h
 clear h
 by_cases c2 : 0 ≤ (l0_0.length : Int)
 ·rw [if_pos c2] at H
  have c2b0 := eq_true c2
  have c2b1 : decide (0 ≤ (l0_0.length : Int)) = true := decide_eq_true c2
  clear c2
  by_cases c3 : ((l0_0.length : Int) : Int).toNat ≤ 281474976710656
  ·rw [if_pos c3] at H
   have c3b0 := eq_true c3
   have c3b1 : decide (((l0_0.length : Int) : Int).toNat ≤ 281474976710656) = true := decide_eq_true c3
   clear c3
   obtain ⟨y153, hy153⟩ : ∃ y_ : List Bool, y_ = (List.replicate ((l0_0.length : Int) : Int).toNat false) := ⟨_, rfl⟩
   replace H : (if 0 ≤ (wrap64 ((l0_0.length : Int) - 1)) then (if (wrap64 ((l0_0.length : Int) - 1)) < (y153.length : Int) then (spec_l21Below.l0 k (y153.set ((wrap64 ((l0_0.length : Int) - 1)) : Int).toNat true) (wrap64 ((l0_0.length : Int) - 1)) l0_0) else (none)) else (none)) = some r := by first | (rw [hy153]; with_reducible exact H) | (have H2_ := (Option.bind_some _ _).symm.trans H; rw [hy153]; with_reducible exact H2_) | (have H2_ := (Option.bind_some _ _).symm.trans H; with_reducible exact H2_) | with_reducible exact H | (rw [hy153]; exact H) | exact H
   have Ny153 := Aside0.mk hy153
   clear hy153
   obtain ⟨ji4, hji4⟩ : ∃ j_ : Int, (wrap64 ((l0_0.length : Int) - 1)) = j_ := ⟨_, rfl⟩
   replace H : (if 0 ≤ (ji4) then (if (ji4) < (y153.length : Int) then (spec_l21Below.l0 k (y153.set ((ji4) : Int).toNat true) ji4 l0_0) else (none)) else (none)) = some r := by first | (rw [hji4] at H; exact H) | (simp only [hji4] at H ⊢; exact H)
   have hji4w : (IntKind.i64.wrap ((l0_0.length : Int) - 1)) = ji4 := (i64_w _).trans hji4
   by_cases c5 : 0 ≤ (ji4)
   ·rw [if_pos c5] at H
    have c5b0 : decide (0 ≤ (ji4)) = true := decide_eq_true c5
    clear c5
    by_cases c6 : (ji4) < (y153.length : Int)
    ·rw [if_pos c6] at H
     have c6b0 : decide ((ji4) < (y153.length : Int)) = true := decide_eq_true c6
     clear c6
     obtain ⟨y156, hy156⟩ : ∃ y_ : List Bool, y_ = (y153.set ((ji4) : Int).toNat true) := ⟨_, rfl⟩
     replace H : (spec_l21Below.l0 k y156 ji4 l0_0) = some r := by first | (rw [hy156]; with_reducible exact H) | (have H2_ := (Option.bind_some _ _).symm.trans H; rw [hy156]; with_reducible exact H2_) | (have H2_ := (Option.bind_some _ _).symm.trans H; with_reducible exact H2_) | with_reducible exact H | (rw [hy156]; exact H) | exact H
     have Ny156 := Aside0.mk hy156
     clear hy156
     have H' := Aside0.mk H
     clear H
     go_enter Try.func84, Try.ntmps84
     go_wp2_with (first | ((with_reducible refine gate_dst (N := 1) rfl ?_); refine box_event ?hg (N := 1) ?hd (cs := #[.slice A0_0 l0_0.length c0_0]) (t := 39) ?hr ?_; (case hd => rfl); (case hg => rfl); (case hr => first | (go_simp; done) | (go_simp; rfl)); intro gb152 hg w8 hbox hb; have BK152 := Aside0.mk (hbox); have GW152 := gs_ hg; have GE152 := gs_ hg; replace HB := hbs_ hb; clear hb hbox hg; have hcz9 := blk_cell BK152.out; have hfz9 := blk_frozen BK152.out) | ((with_reducible refine gate_dst (N := 11) rfl ?_); refine Kd.R_make Kd.bool _ 4 rfl (N := 11) rfl 109 _ _ rfl (l0_0.length : Int) rfl rfl Try.underlying109 (.bool false) 1 info4 rfl (by decide) (by omega) false (ok := fun _ => True) (okp := fun _ => True) rfl (fun _ hk => hk) trivial (of_decide_eq_true (by first | (with_reducible assumption) | assumption)) (Nat.le_trans (Nat.mul_le_mul_right _ (of_decide_eq_true (by first | (with_reducible assumption) | assumption) : (l0_0.length : Int).toNat ≤ 281474976710656)) (by omega)) (Below.refl _ _) (Nat.le_refl _) ?_; intro v154 w10 ho11 hb hg_ hnew_; clear hg_ hnew_; (first | rw [← Ny153.out] at ho11 | (simp only [Int.reduceToNat] at ho11; rw [← Ny153.out] at ho11)); have HO155 := Aside0.mk (Kd.R_lower ho11 bls_); replace BK152 := bkb_ BK152 hb; replace HB := hbs_ hb; clear hb ho11; have p7 : 0 ≤ ((ji4) : Int) := of_decide_eq_true (by first | (with_reducible assumption) | assumption); have q7 : ((ji4) : Int) < ((y153.length : Int) : Int) := of_decide_eq_true (by first | (with_reducible assumption) | assumption); obtain ⟨go7, co7, eo7, gb7, gl7, cl7, HG7⟩ := Kd.R_form HO155.out (by omega); (first | cases eo7 | (injection eo7 with ea_ en_ ec_; (first | subst ea_ | (injection ea_ with ea_; subst ea_)); subst ec_; clear en_)); have GB7 := Aside0.mk gb7; have GG7 := Aside0.mk HG7; clear gb7 gl7 HG7; obtain ⟨hx7_0, hf7_0⟩ := Kd.R_celln false HO155.out ((ji4) : Int) p7 q7; replace p7 := eq_true p7; replace q7 := eq_true q7; obtain ⟨hy12_, hz12_⟩ := Kd.R_celln false HO155.out ((ji4) : Int) (of_decide_eq_true (by first | (with_reducible assumption) | assumption)) (of_decide_eq_true (by first | (with_reducible assumption) | assumption)); have HP12 := Kd.R_putg HO155.out ((ji4) : Int) true) | ((with_reducible refine gate_store (t := 4) (p := 15) rfl ?_); refine store_event (t := 4) (p := 15) (v := ?vo_w13) (w1 := (w10.setCell ⟨go7, ((ji4) : Int).toNat, none⟩ (.bool true))) ?hg ?ho ?hn ?hr ?_; (case ho => rfl); (case hg => rfl); (case hn => rfl); (case hr => first | (go_simp; done) | (go_simp; rfl)); intro w13 hw; have hg : w10.grownBy w13 (some go7) := (by rw [hw]; exact HP12.2); have hp_ : Kd.R Kd.bool 4 w13 w.heap.size (fun _ => True) (.slice (some ⟨go7, 0, none⟩) y153.length co7) y156 := (by rw [hw, Ny156.out]; exact HP12.1); clear HP12; replace BK152 := Aside0.mk (blk_grown (g := gb152) (o := .cells #[.slice A0_0 l0_0.length c0_0] 39 (0, 0)) (bk_ BK152) hg (Kd.R_ne HO155.out BK152.out (by decide))); replace HO155 := Aside0.mk (hp_); replace HB := Aside0.mk ((by rw [hw]; exact below_set (HB.out) GB7.out : Below w.heap.size w w13)); clear hg hw hp_))
     go_loopg [5] k (fun kq v5 w' => ∃ (x4_1 : List Bool) (x5_1 : Int), v5 = .int .i64 x5_1 ∧ Aside0 (spec_l21Below.l0 kq x4_1 x5_1 l0_0 = some r) ∧ Aside0 (kq ≤ k) ∧ Aside0 (Kd.R Kd.bool 4 w' w.heap.size (fun _ => True) (.slice (some ⟨go7, 0, none⟩) y153.length co7) x4_1) ∧ Aside0 (w'.heap[gb152]? = some (.cells #[(.slice A0_0 l0_0.length c0_0)] 39 (0, 0))) ∧ Aside0 (Below w.heap.size w w'))
     case atStart => exact ⟨(y156), (ji4), (by first | rfl | (simp; done) | (simp only [← hji4] <;> (first | rfl | simp)) | (simp [*]; done)), H', ⟨Nat.le_refl _⟩, ⟨by (with_reducible repeat (first | apply Kd.R_alloc | apply Kd.R_drewN | apply Kd.R_drew)); exact HO155.out⟩, ⟨bk_ BK152⟩, ⟨bl_⟩⟩
     case round =>
      clear H'
      try clear c2
      try clear c2b0
      try clear c2b1
      try clear p2
      try clear c3
      try clear c3b0
      try clear c3b1
      try clear c5
      try clear c5b0
      try clear c6
      try clear c6b0
      try clear p6
      try clear p7
      try clear q7
      try clear hx7
      try clear hf7
      try clear c8
      try clear hcz9
      try clear hfz9
      try clear hx7_0
      try clear p7
      try clear q7
      obtain ⟨x4_1, x5_1, rfl, HA, HK1, HO_4, BK152, HB⟩ := hrel
      have hl4_1 := (Kd.R_reads' HO_4.out).1
      rw [hl4_1] at HO_4
      (try simp only [hl4_1])
      (try simp only [hl4_1] at BK152)
      cases gk with
      | zero => exact absurd HA.out (by simp [spec_l21Below.l0])
      | succ k1 =>
       have H := HA.out
       clear HA
       simp only [spec_l21Below.l0] at H
       by_cases c14 : x5_1 ≥ 0
       ·rw [if_pos c14] at H
        have c14b0 : decide (0 ≤ x5_1) = true := decide_eq_true c14
        clear c14
        by_cases c15 : 0 ≤ x5_1
        ·rw [if_pos c15] at H
         have c15b0 : decide (0 ≤ x5_1) = true := decide_eq_true c15
         clear c15
         by_cases c16 : x5_1 < (l0_0.length : Int)
         ·rw [if_pos c16] at H
          have c16b0 : decide (x5_1 < (l0_0.length : Int)) = true := decide_eq_true c16
          clear c16
          have HC17 := Aside0.mk H
          clear H
          have hcz18 := blk_cell BK152.out
          have hfz18 := blk_frozen BK152.out
          have p157 : 0 ≤ (x5_1 : Int) := of_decide_eq_true (by first | (with_reducible assumption) | assumption)
          have q157 : x5_1 < (l0_0.length : Int) := of_decide_eq_true (by first | (with_reducible assumption) | assumption)
          obtain ⟨ad157, e157, hx157_0, hx157_1, hx157_2, hx157_3, hx157_4⟩ := at_T105 (Kd.C_below HR0_0.out HB.out) x5_1 p157 q157
          cases e157
          replace p157 := eq_true p157
          replace q157 := eq_true q157
          go_upto_region 8 with (first | ((with_reducible refine gate_dst (N := 6) rfl ?_); refine box_event ?hg (N := 6) ?hd (cs := #[.int .i64 0, .int .i64 0, .int .i64 0, .int .i64 0, .int .i64 0]) (t := 105) ?hr ?_; (case hd => rfl); (case hg => rfl); (case hr => first | (go_simp; done) | (go_simp; rfl)); intro gb158 hg w19 hbox hb; replace HO_4 := Aside0.mk (Kd.R_below (by (with_reducible repeat (first | apply Kd.R_alloc | apply Kd.R_drewN | apply Kd.R_drew)); exact HO_4.out) hb); have BK158 := Aside0.mk (hbox); have GW158 := gs_ hg; have GE158 := gs_ hg; replace HB := hbs_ hb; have NB152_158 := Aside0.mk ((by rw [hg]; exact Nat.ne_of_lt (blk_lt (g := gb152) (o := .cells #[.slice (some ad157) l0_0.length c0_0] 39 (0, 0)) (bk_ BK152)) : gb152 ≠ gb158)); have NB158_152 := Aside0.mk ((by rw [hg]; exact Nat.ne_of_gt (blk_lt (g := gb152) (o := .cells #[.slice (some ad157) l0_0.length c0_0] 39 (0, 0)) (bk_ BK152)) : gb158 ≠ gb152)); replace BK152 := bkb_ BK152 hb; clear hb hbox hg; have hnb20 := NB158_152.out; have hnc20 := NB152_158.out; have hcz21 := blk_cell BK158.out; have hfz21 := blk_frozen BK158.out))
          (try simp only [Act.put, List.setIfInBounds_toArray, List.set_cons_zero, List.set_cons_succ])
          go_cut [36] (fun v36 wc => ∃ (kq : Nat) (x36_16 : Bool), v36 = .bool x36_16 ∧ Aside0 (spec_l21Below.j1 kq x4_1 x5_1 x36_16 l0_0 ((rd_T105 l0_0 x5_1).f0) ((rd_T105 l0_0 x5_1).f1.f0) ((rd_T105 l0_0 x5_1).f1.f1) ((rd_T105 l0_0 x5_1).f2) ((rd_T105 l0_0 x5_1).f3) = some r) ∧ Aside0 (kq ≤ k1) ∧ Aside0 (Kd.R Kd.bool 4 wc w.heap.size (fun _ => True) (.slice (some ⟨go7, 0, none⟩) x4_1.length co7) x4_1) ∧ Aside0 (wc.heap[gb152]? = some (.cells #[(.slice (some ad157) l0_0.length c0_0)] 39 (0, 0))) ∧ Aside0 (wc.heap[gb158]? = some (.cells #[.int .i64 ((rd_T105 l0_0 x5_1).f0), .int .i64 ((rd_T105 l0_0 x5_1).f1.f0), .int .i64 ((rd_T105 l0_0 x5_1).f1.f1), .int .i64 ((rd_T105 l0_0 x5_1).f2), .int .i64 ((rd_T105 l0_0 x5_1).f3)] 105 (0, 0))) ∧ Aside0 (Below w.heap.size w wc))
          case first =>
           have H := HC17.out
           clear HC17
           by_cases c22 : x5_1 < (x4_1.length : Int)
           ·rw [if_pos c22] at H
            have c22b0 : decide (x5_1 < (x4_1.length : Int)) = true := decide_eq_true c22
            clear c22
            (first | rw [c22b0] | (simp only [i64_w, i32_w]; rw [c22b0]) | skip)
            obtain ⟨bq23, hbq23⟩ : ∃ b_ : Bool, b_ = (rdOf false x4_1 x5_1) := ⟨_, rfl⟩
            replace H : (if bq23 = true then (spec_l21Below.j1 k1 x4_1 x5_1 (((rd_T105 l0_0 x5_1).f0) == 1) l0_0 ((rd_T105 l0_0 x5_1).f0) ((rd_T105 l0_0 x5_1).f1.f0) ((rd_T105 l0_0 x5_1).f1.f1) ((rd_T105 l0_0 x5_1).f2) ((rd_T105 l0_0 x5_1).f3)) else (spec_l21Below.j1 k1 x4_1 x5_1 true l0_0 ((rd_T105 l0_0 x5_1).f0) ((rd_T105 l0_0 x5_1).f1.f0) ((rd_T105 l0_0 x5_1).f1.f1) ((rd_T105 l0_0 x5_1).f2) ((rd_T105 l0_0 x5_1).f3))) = some r := by rw [← hbq23] at H; exact H
            have Nbq23 := Aside0.mk hbq23
            clear hbq23
            by_cases c24 : bq23 = true
            ·subst c24
             replace H := ite_t_ H
             have H' := Aside0.mk H
             clear H
             have p159 : 0 ≤ (x5_1 : Int) := of_decide_eq_true (by first | (with_reducible assumption) | assumption)
             have q159 : x5_1 < (x4_1.length : Int) := of_decide_eq_true (by first | (with_reducible assumption) | assumption)
             obtain ⟨ad159, e159, hx159_0⟩ := Kd.at_bool (Kd.R_reads' HO_4.out).2.2 x5_1 p159 q159
             (try rw [← Nbq23.out] at hx159_0)
             obtain rfl : (⟨go7, 0, none⟩ : Addr) = ad159 := (by injection e159)
             (first | simp only [add_plain] at hx159_0 | simp only [add_at] at hx159_0 | simp only [Addr.add, Nat.zero_add] at hx159_0 | skip)
             have hn159_0 : (⟨go7, 0, none⟩ : Addr).block ≠ gb158 := Kd.own_blk (Kd.R_ne HO_4.out BK158.out (by decide))
             have hn159_1 : (⟨go7, 0, none⟩ : Addr).block ≠ gb158 := Kd.own_blk (Kd.R_ne HO_4.out BK158.out (by decide))
             have hn159_2 : (⟨go7, 0, none⟩ : Addr).block ≠ gb158 := Kd.own_blk (Kd.R_ne HO_4.out BK158.out (by decide))
             have hn159_3 : (⟨go7, 0, none⟩ : Addr).block ≠ gb158 := Kd.own_blk (Kd.R_ne HO_4.out BK158.out (by decide))
             have hn159_4 : (⟨go7, 0, none⟩ : Addr).block ≠ gb158 := Kd.own_blk (Kd.R_ne HO_4.out BK158.out (by decide))
             replace hx159_0 := (cell_far (p := ⟨gb158, 0, none⟩) (by first | (rw [add_block]; exact hn159_0) | (show (Addr.add _ _).block ≠ _; rw [add_block]; exact hn159_0) | exact hn159_0) (.int .i64 ((rd_T105 l0_0 x5_1).f0))).trans hx159_0
             replace hx159_0 := (cell_far (p := ⟨gb158, 1, none⟩) (by first | (rw [add_block]; exact hn159_1) | (show (Addr.add _ _).block ≠ _; rw [add_block]; exact hn159_1) | exact hn159_1) (.int .i64 ((rd_T105 l0_0 x5_1).f1.f0))).trans hx159_0
             replace hx159_0 := (cell_far (p := ⟨gb158, 2, none⟩) (by first | (rw [add_block]; exact hn159_2) | (show (Addr.add _ _).block ≠ _; rw [add_block]; exact hn159_2) | exact hn159_2) (.int .i64 ((rd_T105 l0_0 x5_1).f1.f1))).trans hx159_0
             replace hx159_0 := (cell_far (p := ⟨gb158, 3, none⟩) (by first | (rw [add_block]; exact hn159_3) | (show (Addr.add _ _).block ≠ _; rw [add_block]; exact hn159_3) | exact hn159_3) (.int .i64 ((rd_T105 l0_0 x5_1).f2))).trans hx159_0
             replace hx159_0 := (cell_far (p := ⟨gb158, 4, none⟩) (by first | (rw [add_block]; exact hn159_4) | (show (Addr.add _ _).block ≠ _; rw [add_block]; exact hn159_4) | exact hn159_4) (.int .i64 ((rd_T105 l0_0 x5_1).f3))).trans hx159_0
             clear hn159_0
             clear hn159_1
             clear hn159_2
             clear hn159_3
             clear hn159_4
             replace p159 := eq_true p159
             replace q159 := eq_true q159
             have hnb25 := NB158_152.out
             have hnc25 := NB152_158.out
             have hcz26 := blk_cell BK158.out
             have hfz26 := blk_frozen BK158.out
             go_wp2
             go_meet
             case rel => exact ⟨_, ((((rd_T105 l0_0 x5_1).f0) == 1)), (by first | rfl | (simp; done) | (simp [*]; done)), H', ⟨by have := HK1.out; first | omega | exact Nat.le_refl _⟩, ⟨by (try simp only [hl4_1]); (with_reducible repeat (first | apply Kd.R_alloc | apply Kd.R_drewN | apply Kd.R_drew)); exact Kd.R_mono (Kd.R_far (p := ⟨gb158, 4, none⟩) (Kd.R_far (p := ⟨gb158, 3, none⟩) (Kd.R_far (p := ⟨gb158, 2, none⟩) (Kd.R_far (p := ⟨gb158, 1, none⟩) (Kd.R_far (p := ⟨gb158, 0, none⟩) (Kd.R_types HO_4.out BK158.out (by decide)) (fun _ hk => hk.2) (.int .i64 ((rd_T105 l0_0 x5_1).f0))) (fun _ hk => hk.2) (.int .i64 ((rd_T105 l0_0 x5_1).f1.f0))) (fun _ hk => hk.2) (.int .i64 ((rd_T105 l0_0 x5_1).f1.f1))) (fun _ hk => hk.2) (.int .i64 ((rd_T105 l0_0 x5_1).f2))) (fun _ hk => hk.2) (.int .i64 ((rd_T105 l0_0 x5_1).f3))) (fun _ hk => trivial)⟩, ⟨by (try simp only [hl4_1]); (with_reducible repeat (first | refine blk_drewN ?_ _ | refine blk_drew ?_ | refine blk_alloc ?_ _)); refine blk_far ?_ NB152_158.out _; (with_reducible repeat (first | refine blk_drewN ?_ _ | refine blk_drew ?_ | refine blk_alloc ?_ _)); refine blk_far ?_ NB152_158.out _; (with_reducible repeat (first | refine blk_drewN ?_ _ | refine blk_drew ?_ | refine blk_alloc ?_ _)); refine blk_far ?_ NB152_158.out _; (with_reducible repeat (first | refine blk_drewN ?_ _ | refine blk_drew ?_ | refine blk_alloc ?_ _)); refine blk_far ?_ NB152_158.out _; (with_reducible repeat (first | refine blk_drewN ?_ _ | refine blk_drew ?_ | refine blk_alloc ?_ _)); refine blk_far ?_ NB152_158.out _; (with_reducible repeat (first | refine blk_drewN ?_ _ | refine blk_drew ?_ | refine blk_alloc ?_ _)); exact BK152.out⟩, ⟨by (try simp only [hl4_1]); (with_reducible repeat (first | refine blk_drewN ?_ _ | refine blk_drew ?_ | refine blk_alloc ?_ _)); refine blk_put (cs := #[.int .i64 ((rd_T105 l0_0 x5_1).f0), .int .i64 ((rd_T105 l0_0 x5_1).f1.f0), .int .i64 ((rd_T105 l0_0 x5_1).f1.f1), .int .i64 ((rd_T105 l0_0 x5_1).f2), .int .i64 0]) ?_ 4 _ rfl; (with_reducible repeat (first | refine blk_drewN ?_ _ | refine blk_drew ?_ | refine blk_alloc ?_ _)); refine blk_put (cs := #[.int .i64 ((rd_T105 l0_0 x5_1).f0), .int .i64 ((rd_T105 l0_0 x5_1).f1.f0), .int .i64 ((rd_T105 l0_0 x5_1).f1.f1), .int .i64 0, .int .i64 0]) ?_ 3 _ rfl; (with_reducible repeat (first | refine blk_drewN ?_ _ | refine blk_drew ?_ | refine blk_alloc ?_ _)); refine blk_put (cs := #[.int .i64 ((rd_T105 l0_0 x5_1).f0), .int .i64 ((rd_T105 l0_0 x5_1).f1.f0), .int .i64 0, .int .i64 0, .int .i64 0]) ?_ 2 _ rfl; (with_reducible repeat (first | refine blk_drewN ?_ _ | refine blk_drew ?_ | refine blk_alloc ?_ _)); refine blk_put (cs := #[.int .i64 ((rd_T105 l0_0 x5_1).f0), .int .i64 0, .int .i64 0, .int .i64 0, .int .i64 0]) ?_ 1 _ rfl; (with_reducible repeat (first | refine blk_drewN ?_ _ | refine blk_drew ?_ | refine blk_alloc ?_ _)); refine blk_put (cs := #[.int .i64 0, .int .i64 0, .int .i64 0, .int .i64 0, .int .i64 0]) ?_ 0 _ rfl; (with_reducible repeat (first | refine blk_drewN ?_ _ | refine blk_drew ?_ | refine blk_alloc ?_ _)); exact BK158.out⟩, ⟨bl_⟩⟩
            ·replace c24 := Bool.eq_false_iff.mpr c24
             subst c24
             replace H := ite_f_ H
             have H' := Aside0.mk H
             clear H
             have p159 : 0 ≤ (x5_1 : Int) := of_decide_eq_true (by first | (with_reducible assumption) | assumption)
             have q159 : x5_1 < (x4_1.length : Int) := of_decide_eq_true (by first | (with_reducible assumption) | assumption)
             obtain ⟨ad159, e159, hx159_0⟩ := Kd.at_bool (Kd.R_reads' HO_4.out).2.2 x5_1 p159 q159
             (try rw [← Nbq23.out] at hx159_0)
             obtain rfl : (⟨go7, 0, none⟩ : Addr) = ad159 := (by injection e159)
             (first | simp only [add_plain] at hx159_0 | simp only [add_at] at hx159_0 | simp only [Addr.add, Nat.zero_add] at hx159_0 | skip)
             have hn159_0 : (⟨go7, 0, none⟩ : Addr).block ≠ gb158 := Kd.own_blk (Kd.R_ne HO_4.out BK158.out (by decide))
             have hn159_1 : (⟨go7, 0, none⟩ : Addr).block ≠ gb158 := Kd.own_blk (Kd.R_ne HO_4.out BK158.out (by decide))
             have hn159_2 : (⟨go7, 0, none⟩ : Addr).block ≠ gb158 := Kd.own_blk (Kd.R_ne HO_4.out BK158.out (by decide))
             have hn159_3 : (⟨go7, 0, none⟩ : Addr).block ≠ gb158 := Kd.own_blk (Kd.R_ne HO_4.out BK158.out (by decide))
             have hn159_4 : (⟨go7, 0, none⟩ : Addr).block ≠ gb158 := Kd.own_blk (Kd.R_ne HO_4.out BK158.out (by decide))
             replace hx159_0 := (cell_far (p := ⟨gb158, 0, none⟩) (by first | (rw [add_block]; exact hn159_0) | (show (Addr.add _ _).block ≠ _; rw [add_block]; exact hn159_0) | exact hn159_0) (.int .i64 ((rd_T105 l0_0 x5_1).f0))).trans hx159_0
             replace hx159_0 := (cell_far (p := ⟨gb158, 1, none⟩) (by first | (rw [add_block]; exact hn159_1) | (show (Addr.add _ _).block ≠ _; rw [add_block]; exact hn159_1) | exact hn159_1) (.int .i64 ((rd_T105 l0_0 x5_1).f1.f0))).trans hx159_0
             replace hx159_0 := (cell_far (p := ⟨gb158, 2, none⟩) (by first | (rw [add_block]; exact hn159_2) | (show (Addr.add _ _).block ≠ _; rw [add_block]; exact hn159_2) | exact hn159_2) (.int .i64 ((rd_T105 l0_0 x5_1).f1.f1))).trans hx159_0
             replace hx159_0 := (cell_far (p := ⟨gb158, 3, none⟩) (by first | (rw [add_block]; exact hn159_3) | (show (Addr.add _ _).block ≠ _; rw [add_block]; exact hn159_3) | exact hn159_3) (.int .i64 ((rd_T105 l0_0 x5_1).f2))).trans hx159_0
             replace hx159_0 := (cell_far (p := ⟨gb158, 4, none⟩) (by first | (rw [add_block]; exact hn159_4) | (show (Addr.add _ _).block ≠ _; rw [add_block]; exact hn159_4) | exact hn159_4) (.int .i64 ((rd_T105 l0_0 x5_1).f3))).trans hx159_0
             clear hn159_0
             clear hn159_1
             clear hn159_2
             clear hn159_3
             clear hn159_4
             replace p159 := eq_true p159
             replace q159 := eq_true q159
             go_wp2
             go_meet
             case rel => exact ⟨_, (true), (by first | rfl | (simp; done) | (simp [*]; done)), H', ⟨by have := HK1.out; first | omega | exact Nat.le_refl _⟩, ⟨by (try simp only [hl4_1]); (with_reducible repeat (first | apply Kd.R_alloc | apply Kd.R_drewN | apply Kd.R_drew)); exact Kd.R_mono (Kd.R_far (p := ⟨gb158, 4, none⟩) (Kd.R_far (p := ⟨gb158, 3, none⟩) (Kd.R_far (p := ⟨gb158, 2, none⟩) (Kd.R_far (p := ⟨gb158, 1, none⟩) (Kd.R_far (p := ⟨gb158, 0, none⟩) (Kd.R_types HO_4.out BK158.out (by decide)) (fun _ hk => hk.2) (.int .i64 ((rd_T105 l0_0 x5_1).f0))) (fun _ hk => hk.2) (.int .i64 ((rd_T105 l0_0 x5_1).f1.f0))) (fun _ hk => hk.2) (.int .i64 ((rd_T105 l0_0 x5_1).f1.f1))) (fun _ hk => hk.2) (.int .i64 ((rd_T105 l0_0 x5_1).f2))) (fun _ hk => hk.2) (.int .i64 ((rd_T105 l0_0 x5_1).f3))) (fun _ hk => trivial)⟩, ⟨by (try simp only [hl4_1]); (with_reducible repeat (first | refine blk_drewN ?_ _ | refine blk_drew ?_ | refine blk_alloc ?_ _)); refine blk_far ?_ NB152_158.out _; (with_reducible repeat (first | refine blk_drewN ?_ _ | refine blk_drew ?_ | refine blk_alloc ?_ _)); refine blk_far ?_ NB152_158.out _; (with_reducible repeat (first | refine blk_drewN ?_ _ | refine blk_drew ?_ | refine blk_alloc ?_ _)); refine blk_far ?_ NB152_158.out _; (with_reducible repeat (first | refine blk_drewN ?_ _ | refine blk_drew ?_ | refine blk_alloc ?_ _)); refine blk_far ?_ NB152_158.out _; (with_reducible repeat (first | refine blk_drewN ?_ _ | refine blk_drew ?_ | refine blk_alloc ?_ _)); refine blk_far ?_ NB152_158.out _; (with_reducible repeat (first | refine blk_drewN ?_ _ | refine blk_drew ?_ | refine blk_alloc ?_ _)); exact BK152.out⟩, ⟨by (try simp only [hl4_1]); (with_reducible repeat (first | refine blk_drewN ?_ _ | refine blk_drew ?_ | refine blk_alloc ?_ _)); refine blk_put (cs := #[.int .i64 ((rd_T105 l0_0 x5_1).f0), .int .i64 ((rd_T105 l0_0 x5_1).f1.f0), .int .i64 ((rd_T105 l0_0 x5_1).f1.f1), .int .i64 ((rd_T105 l0_0 x5_1).f2), .int .i64 0]) ?_ 4 _ rfl; (with_reducible repeat (first | refine blk_drewN ?_ _ | refine blk_drew ?_ | refine blk_alloc ?_ _)); refine blk_put (cs := #[.int .i64 ((rd_T105 l0_0 x5_1).f0), .int .i64 ((rd_T105 l0_0 x5_1).f1.f0), .int .i64 ((rd_T105 l0_0 x5_1).f1.f1), .int .i64 0, .int .i64 0]) ?_ 3 _ rfl; (with_reducible repeat (first | refine blk_drewN ?_ _ | refine blk_drew ?_ | refine blk_alloc ?_ _)); refine blk_put (cs := #[.int .i64 ((rd_T105 l0_0 x5_1).f0), .int .i64 ((rd_T105 l0_0 x5_1).f1.f0), .int .i64 0, .int .i64 0, .int .i64 0]) ?_ 2 _ rfl; (with_reducible repeat (first | refine blk_drewN ?_ _ | refine blk_drew ?_ | refine blk_alloc ?_ _)); refine blk_put (cs := #[.int .i64 ((rd_T105 l0_0 x5_1).f0), .int .i64 0, .int .i64 0, .int .i64 0, .int .i64 0]) ?_ 1 _ rfl; (with_reducible repeat (first | refine blk_drewN ?_ _ | refine blk_drew ?_ | refine blk_alloc ?_ _)); refine blk_put (cs := #[.int .i64 0, .int .i64 0, .int .i64 0, .int .i64 0, .int .i64 0]) ?_ 0 _ rfl; (with_reducible repeat (first | refine blk_drewN ?_ _ | refine blk_drew ?_ | refine blk_alloc ?_ _)); exact BK158.out⟩, ⟨bl_⟩⟩
           ·rw [if_neg c22] at H
            exact absurd H (by simp)
          case rest =>
           clear HC17
           try clear c1
           try clear p1
           try clear q1
           try clear hx1
           try clear c2
           try clear c2b0
           try clear c2b1
           try clear p2
           try clear q2
           try clear c3
           try clear c3b0
           try clear c3b1
           try clear c5
           try clear c5b0
           try clear c6
           try clear c6b0
           try clear p6
           try clear p7
           try clear q7
           try clear hx7
           try clear hf7
           try clear c8
           try clear c14
           try clear c14b0
           try clear c15
           try clear c15b0
           try clear p15
           try clear q15
           try clear hx15
           try clear c16
           try clear c16b0
           try clear c20
           try clear c22
           try clear c22b0
           try clear q23
           try clear c24
           try clear c25
           try clear hcz18
           try clear hcz21
           try clear hcz26
           try clear hcz9
           try clear hfz18
           try clear hfz21
           try clear hfz26
           try clear hfz9
           try clear hx157_0
           try clear hx157_1
           try clear hx157_2
           try clear hx157_3
           try clear hx157_4
           try clear hx159_0
           try clear hx7_0
           try clear p157
           try clear p159
           try clear p2
           try clear p6
           try clear p7
           try clear q157
           try clear q159
           try clear q7
           obtain ⟨kq, x36_16, rfl, HA, HJ16, HO_4, BK152, BK158, HB⟩ := hcut
           cases kq with
           | zero => exact absurd HA.out (by simp [spec_l21Below.j1])
           | succ kj16 =>
            have H := HA.out
            clear HA
            simp only [spec_l21Below.j1] at H
            by_cases c27 : x36_16 = true
            ·subst c27
             replace H := ite_t_ H
             have H' := Aside0.mk H
             clear H
             go_wp2
             (try simp only [← hl4_1])
             go_roundg kj16
             case measure => have := HK1.out; have := HJ16.out; omega
             case rel => exact ⟨(x4_1), (wrap64 (x5_1 - 1)), (by first | rfl | (simp; done) | (simp [*]; done)), H', ⟨by have := HK1.out; have := HJ16.out; omega⟩, ⟨by (try simp only [hl4_1]); (with_reducible repeat (first | apply Kd.R_alloc | apply Kd.R_drewN | apply Kd.R_drew)); exact HO_4.out⟩, ⟨by (try simp only [hl4_1]); (with_reducible repeat (first | refine blk_drewN ?_ _ | refine blk_drew ?_ | refine blk_alloc ?_ _)); exact BK152.out⟩, ⟨bl_⟩⟩
            ·replace c27 := Bool.eq_false_iff.mpr c27
             subst c27
             replace H := ite_f_ H
             by_cases c28 : 0 ≤ ((rd_T105 l0_0 x5_1).f2)
             ·rw [if_pos c28] at H
              have c28b0 : decide (0 ≤ ((rd_T105 l0_0 x5_1).f2)) = true := decide_eq_true c28
              clear c28
              by_cases c29 : ((rd_T105 l0_0 x5_1).f2) < (x4_1.length : Int)
              ·rw [if_pos c29] at H
               have c29b0 : decide (((rd_T105 l0_0 x5_1).f2) < (x4_1.length : Int)) = true := decide_eq_true c29
               clear c29
               obtain ⟨y160, hy160⟩ : ∃ y_ : List Bool, y_ = (x4_1.set (((rd_T105 l0_0 x5_1).f2) : Int).toNat true) := ⟨_, rfl⟩
               replace H : (if ((rd_T105 l0_0 x5_1).f0) = 4 then (spec_l21Below.l0 kj16 y160 (wrap64 (x5_1 - 1)) l0_0) else (if 0 ≤ ((rd_T105 l0_0 x5_1).f3) then (if ((rd_T105 l0_0 x5_1).f3) < (x4_1.length : Int) then (spec_l21Below.l0 kj16 (y160.set (((rd_T105 l0_0 x5_1).f3) : Int).toNat true) (wrap64 (x5_1 - 1)) l0_0) else (none)) else (none))) = some r := by first | (rw [hy160]; with_reducible exact H) | (have H2_ := (Option.bind_some _ _).symm.trans H; rw [hy160]; with_reducible exact H2_) | (have H2_ := (Option.bind_some _ _).symm.trans H; with_reducible exact H2_) | with_reducible exact H | (rw [hy160]; exact H) | exact H
               have Ny160 := Aside0.mk hy160
               clear hy160
               by_cases c31 : ((rd_T105 l0_0 x5_1).f0) = 4
               ·rw [if_pos c31] at H
                have c31b0 : (((rd_T105 l0_0 x5_1).f0) == 4) = true := beq_iff_eq.mpr c31
                have c31b1 : (((rd_T105 l0_0 x5_1).f0) != 4) = false := bne_eq_false_iff_eq.mpr c31
                clear c31
                have H' := Aside0.mk H
                clear H
                have hnb32 := NB158_152.out
                have hnc32 := NB152_158.out
                have hcz33 := blk_cell BK158.out
                have hfz33 := blk_frozen BK158.out
                have p30 : 0 ≤ (((rd_T105 l0_0 x5_1).f2) : Int) := of_decide_eq_true (by first | (with_reducible assumption) | assumption)
                have q30 : (((rd_T105 l0_0 x5_1).f2) : Int) < ((x4_1.length : Int) : Int) := of_decide_eq_true (by first | (with_reducible assumption) | assumption)
                obtain ⟨hx30_0, hf30_0⟩ := Kd.R_celln false HO_4.out (((rd_T105 l0_0 x5_1).f2) : Int) p30 q30
                replace p30 := eq_true p30
                replace q30 := eq_true q30
                have HP34 := Kd.R_putg HO_4.out (((rd_T105 l0_0 x5_1).f2) : Int) true
                go_wp2_with (first | ((with_reducible refine gate_store (t := 4) (p := 40) rfl ?_); refine store_event (t := 4) (p := 40) (v := ?vo_w35) (w1 := (wc.setCell ⟨go7, (((rd_T105 l0_0 x5_1).f2) : Int).toNat, none⟩ (.bool true))) ?hg ?ho ?hn ?hr ?_; (case ho => rfl); (case hg => rfl); (case hn => rfl); (case hr => first | (go_simp; done) | (go_simp; rfl)); intro w35 hw; have hg : wc.grownBy w35 (some go7) := (by rw [hw]; exact HP34.2); have hp_ : Kd.R Kd.bool 4 w35 w.heap.size (fun _ => True) (.slice (some ⟨go7, 0, none⟩) x4_1.length co7) y160 := (by rw [hw, Ny160.out]; exact HP34.1); clear HP34; replace BK152 := Aside0.mk (blk_grown (g := gb152) (o := .cells #[.slice (some ad157) l0_0.length c0_0] 39 (0, 0)) (bk_ BK152) hg (Kd.R_ne HO_4.out BK152.out (by decide))); replace BK158 := Aside0.mk (blk_grown (g := gb158) (o := .cells #[.int .i64 ((rd_T105 l0_0 x5_1).f0), .int .i64 ((rd_T105 l0_0 x5_1).f1.f0), .int .i64 ((rd_T105 l0_0 x5_1).f1.f1), .int .i64 ((rd_T105 l0_0 x5_1).f2), .int .i64 ((rd_T105 l0_0 x5_1).f3)] 105 (0, 0)) (bk_ BK158) hg (Kd.R_ne HO_4.out BK158.out (by decide))); replace HO_4 := Aside0.mk (hp_); replace HB := Aside0.mk ((by rw [hw]; exact below_set (HB.out) GB7.out : Below w.heap.size w w35)); clear hg hw hp_; have hcz36 := blk_cell BK158.out; have hfz36 := blk_frozen BK158.out))
                (try simp only [← hl4_1])
                go_roundg kj16
                case measure => have := HK1.out; have := HJ16.out; omega
                case rel => exact ⟨(y160), (wrap64 (x5_1 - 1)), (by first | rfl | (simp; done) | (simp [*]; done)), H', ⟨by have := HK1.out; have := HJ16.out; omega⟩, ⟨by (try simp only [hl4_1]); (with_reducible repeat (first | apply Kd.R_alloc | apply Kd.R_drewN | apply Kd.R_drew)); exact HO_4.out⟩, ⟨by (try simp only [hl4_1]); (with_reducible repeat (first | refine blk_drewN ?_ _ | refine blk_drew ?_ | refine blk_alloc ?_ _)); exact BK152.out⟩, ⟨bl_⟩⟩
               ·rw [if_neg c31] at H
                have c31b0 : (((rd_T105 l0_0 x5_1).f0) == 4) = false := beq_eq_false_iff_ne.mpr c31
                have c31b1 : (((rd_T105 l0_0 x5_1).f0) != 4) = true := bne_iff_ne.mpr c31
                by_cases c37 : 0 ≤ ((rd_T105 l0_0 x5_1).f3)
                ·rw [if_pos c37] at H
                 have c37b0 : decide (0 ≤ ((rd_T105 l0_0 x5_1).f3)) = true := decide_eq_true c37
                 clear c37
                 by_cases c38 : ((rd_T105 l0_0 x5_1).f3) < (x4_1.length : Int)
                 ·rw [if_pos c38] at H
                  have c38b0 : decide (((rd_T105 l0_0 x5_1).f3) < (x4_1.length : Int)) = true := decide_eq_true c38
                  clear c38
                  obtain ⟨y161, hy161⟩ : ∃ y_ : List Bool, y_ = (y160.set (((rd_T105 l0_0 x5_1).f3) : Int).toNat true) := ⟨_, rfl⟩
                  replace H : (spec_l21Below.l0 kj16 y161 (wrap64 (x5_1 - 1)) l0_0) = some r := by first | (rw [hy161]; with_reducible exact H) | (have H2_ := (Option.bind_some _ _).symm.trans H; rw [hy161]; with_reducible exact H2_) | (have H2_ := (Option.bind_some _ _).symm.trans H; with_reducible exact H2_) | with_reducible exact H | (rw [hy161]; exact H) | exact H
                  have Ny161 := Aside0.mk hy161
                  clear hy161
                  have H' := Aside0.mk H
                  clear H
                  have hnb40 := NB158_152.out
                  have hnc40 := NB152_158.out
                  have hcz41 := blk_cell BK158.out
                  have hfz41 := blk_frozen BK158.out
                  have p30 : 0 ≤ (((rd_T105 l0_0 x5_1).f2) : Int) := of_decide_eq_true (by first | (with_reducible assumption) | assumption)
                  have q30 : (((rd_T105 l0_0 x5_1).f2) : Int) < ((x4_1.length : Int) : Int) := of_decide_eq_true (by first | (with_reducible assumption) | assumption)
                  obtain ⟨hx30_0, hf30_0⟩ := Kd.R_celln false HO_4.out (((rd_T105 l0_0 x5_1).f2) : Int) p30 q30
                  replace p30 := eq_true p30
                  replace q30 := eq_true q30
                  have HP42 := Kd.R_putg HO_4.out (((rd_T105 l0_0 x5_1).f2) : Int) true
                  go_wp2_with (first | ((with_reducible refine gate_store (t := 4) (p := 40) rfl ?_); refine store_event (t := 4) (p := 40) (v := ?vo_w43) (w1 := (wc.setCell ⟨go7, (((rd_T105 l0_0 x5_1).f2) : Int).toNat, none⟩ (.bool true))) ?hg ?ho ?hn ?hr ?_; (case ho => rfl); (case hg => rfl); (case hn => rfl); (case hr => first | (go_simp; done) | (go_simp; rfl)); intro w43 hw; have hg : wc.grownBy w43 (some go7) := (by rw [hw]; exact HP42.2); have hp_ : Kd.R Kd.bool 4 w43 w.heap.size (fun _ => True) (.slice (some ⟨go7, 0, none⟩) x4_1.length co7) y160 := (by rw [hw, Ny160.out]; exact HP42.1); clear HP42; replace BK152 := Aside0.mk (blk_grown (g := gb152) (o := .cells #[.slice (some ad157) l0_0.length c0_0] 39 (0, 0)) (bk_ BK152) hg (Kd.R_ne HO_4.out BK152.out (by decide))); replace BK158 := Aside0.mk (blk_grown (g := gb158) (o := .cells #[.int .i64 ((rd_T105 l0_0 x5_1).f0), .int .i64 ((rd_T105 l0_0 x5_1).f1.f0), .int .i64 ((rd_T105 l0_0 x5_1).f1.f1), .int .i64 ((rd_T105 l0_0 x5_1).f2), .int .i64 ((rd_T105 l0_0 x5_1).f3)] 105 (0, 0)) (bk_ BK158) hg (Kd.R_ne HO_4.out BK158.out (by decide))); replace HO_4 := Aside0.mk (hp_); replace HB := Aside0.mk ((by rw [hw]; exact below_set (HB.out) GB7.out : Below w.heap.size w w43)); clear hg hw hp_; have hcz44 := blk_cell BK158.out; have hfz44 := blk_frozen BK158.out; have p39 : 0 ≤ (((rd_T105 l0_0 x5_1).f3) : Int) := of_decide_eq_true (by first | (with_reducible assumption) | assumption); have q39 : (((rd_T105 l0_0 x5_1).f3) : Int) < ((x4_1.length : Int) : Int) := of_decide_eq_true (by first | (with_reducible assumption) | assumption); obtain ⟨hx39_0, hf39_0⟩ := Kd.R_celln false HO_4.out (((rd_T105 l0_0 x5_1).f3) : Int) p39 q39; replace p39 := eq_true p39; replace q39 := eq_true q39; obtain ⟨hy45_, hz45_⟩ := Kd.R_celln false HO_4.out (((rd_T105 l0_0 x5_1).f3) : Int) (of_decide_eq_true (by first | (with_reducible assumption) | assumption)) (of_decide_eq_true (by first | (with_reducible assumption) | assumption)); have HP45 := Kd.R_putg HO_4.out (((rd_T105 l0_0 x5_1).f3) : Int) true) | ((with_reducible refine gate_store (t := 4) (p := 47) rfl ?_); refine store_event (t := 4) (p := 47) (v := ?vo_w46) (w1 := (w43.setCell ⟨go7, (((rd_T105 l0_0 x5_1).f3) : Int).toNat, none⟩ (.bool true))) ?hg ?ho ?hn ?hr ?_; (case ho => rfl); (case hg => rfl); (case hn => rfl); (case hr => first | (go_simp; done) | (go_simp; rfl)); intro w46 hw; have hg : w43.grownBy w46 (some go7) := (by rw [hw]; exact HP45.2); have hp_ : Kd.R Kd.bool 4 w46 w.heap.size (fun _ => True) (.slice (some ⟨go7, 0, none⟩) x4_1.length co7) y161 := (by rw [hw, Ny161.out]; exact HP45.1); clear HP45; replace BK152 := Aside0.mk (blk_grown (g := gb152) (o := .cells #[.slice (some ad157) l0_0.length c0_0] 39 (0, 0)) (bk_ BK152) hg (Kd.R_ne HO_4.out BK152.out (by decide))); replace BK158 := Aside0.mk (blk_grown (g := gb158) (o := .cells #[.int .i64 ((rd_T105 l0_0 x5_1).f0), .int .i64 ((rd_T105 l0_0 x5_1).f1.f0), .int .i64 ((rd_T105 l0_0 x5_1).f1.f1), .int .i64 ((rd_T105 l0_0 x5_1).f2), .int .i64 ((rd_T105 l0_0 x5_1).f3)] 105 (0, 0)) (bk_ BK158) hg (Kd.R_ne HO_4.out BK158.out (by decide))); replace HO_4 := Aside0.mk (hp_); replace HB := Aside0.mk ((by rw [hw]; exact below_set (HB.out) GB7.out : Below w.heap.size w w46)); clear hg hw hp_))
                  (try simp only [← hl4_1])
                  go_roundg kj16
                  case measure => have := HK1.out; have := HJ16.out; omega
                  case rel => exact ⟨(y161), (wrap64 (x5_1 - 1)), (by first | rfl | (simp; done) | (simp [*]; done)), H', ⟨by have := HK1.out; have := HJ16.out; omega⟩, ⟨by (try simp only [hl4_1]); (with_reducible repeat (first | apply Kd.R_alloc | apply Kd.R_drewN | apply Kd.R_drew)); exact HO_4.out⟩, ⟨by (try simp only [hl4_1]); (with_reducible repeat (first | refine blk_drewN ?_ _ | refine blk_drew ?_ | refine blk_alloc ?_ _)); exact BK152.out⟩, ⟨bl_⟩⟩
                 ·rw [if_neg c38] at H
                  exact absurd H (by simp)
                ·rw [if_neg c37] at H
                 exact absurd H (by simp)
              ·rw [if_neg c29] at H
               exact absurd H (by simp)
             ·rw [if_neg c28] at H
              exact absurd H (by simp)
         ·rw [if_neg c16] at H
          exact absurd H (by simp)
        ·rw [if_neg c15] at H
         exact absurd H (by simp)
       ·rw [if_neg c14] at H
        have c14b0 : decide (0 ≤ x5_1) = false := decide_eq_false c14
        clear c14
        obtain rfl := Option.some.inj H
        go_wp2
        go_ret
        exact ⟨_, by first | rfl | (simp [errW_none, errW_some] <;> rfl) | (simp only [← hji4]; first | rfl | (simp [errW_none, errW_some] <;> rfl)) | (simp [*, errW_none, errW_some] <;> rfl), by (with_reducible repeat (first | apply Kd.R_alloc | apply Kd.R_drewN | apply Kd.R_drew)); exact HO_4.out, bl_⟩
    ·rw [if_neg c6] at H
     exact absurd H (by simp)
   ·rw [if_neg c5] at H
    exact absurd H (by simp)
  ·rw [if_neg c3] at H
   exact absurd H (by simp)
 ·rw [if_neg c2] at H
  exact absurd H (by simp)
end Go.Proofs.Ytcgnegnljffkmaa.PE
