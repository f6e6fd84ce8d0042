import Derived.Test.YtcgnegnljffkmaaKFnExactReadPolicyPAx0
import Derived.Test.YtcgnegnljffkmaaKFnExactReadPolicyPAx3
import Derived.Test.YtcgnegnljffkmaaKFnExactReadPolicyPAx4
-- A text of this claim: written by the session's own program out of the translation (wip/tools). Lean checks it.
namespace Go.Proofs.Ytcgnegnljffkmaa.PA
open Go.RowKit Go.Proofs.YtcgnegnljffkmaaW.PrintWords Go.Proofs.YtcgnegnljffkmaaW.PrintLast Go.Proofs.YtcgnegnljffkmaaW.PrintMore
attribute [local go_sem] max2_int min2_int max_two min_two max_three min_three max_four min_four   -- for this text's walks alone
set_option linter.unusedVariables false
set_option linter.unusedSimpArgs false
mutual
def spec_PolicyOk.l0 : Nat → Int → List (S105) → Option (Bool)
 | 0, _, _ => none
 | k + 1, x3, x207000 => if x3 < (x207000.length : Int) then (if 0 ≤ x3 then (if ((rd_T105 x207000 x3).f0) = 1 then ((spec_RoleOk.f ((rd_T105 x207000 x3).f1.f0) ((rd_T105 x207000 x3).f1.f1)).bind fun t210 => (if t210 = true then (if ((rd_T105 x207000 x3).f2) = 0 then (if ((rd_T105 x207000 x3).f3) = 0 then (spec_PolicyOk.l0 k (wrap64 (x3 + 1)) x207000) else (some false)) else (some false)) else (some false))) else (if ((rd_T105 x207000 x3).f0) = 2 then (spec_PolicyOk.j1 k x3 ((rd_T105 x207000 x3).f0) (((rd_T105 x207000 x3).f0) == 2) x207000 ((rd_T105 x207000 x3).f0) ((rd_T105 x207000 x3).f1.f0) ((rd_T105 x207000 x3).f1.f1) ((rd_T105 x207000 x3).f2) ((rd_T105 x207000 x3).f3)) else (spec_PolicyOk.j1 k x3 ((rd_T105 x207000 x3).f0) (((rd_T105 x207000 x3).f0) == 3) x207000 ((rd_T105 x207000 x3).f0) ((rd_T105 x207000 x3).f1.f0) ((rd_T105 x207000 x3).f1.f1) ((rd_T105 x207000 x3).f2) ((rd_T105 x207000 x3).f3)))) else (none)) else (some true)
def spec_PolicyOk.j1 : Nat → Int → Int → Bool → List (S105) → Int → Int → Int → Int → Int → Option (Bool)
 | 0, _, _, _, _, _, _, _, _, _ => none
 | k + 1, x3, x23, x40, x207000, x210000, x210001, x210002, x210003, x210004 => if x40 = true then ((spec_l21None.f x210001 x210002).bind fun t211 => (if t211 = true then ((spec_l01In.f x210003 0 (wrap64 (x3 - 1))).bind fun t212 => (if t212 = true then ((spec_l01In.f x210004 0 (wrap64 (x3 - 1))).bind fun t213 => (if t213 = true then (spec_PolicyOk.l0 k (wrap64 (x3 + 1)) x207000) else (some false))) else (some false))) else (some false))) else (if x23 = 4 then ((spec_l21None.f x210001 x210002).bind fun t214 => (if t214 = true then ((spec_l01In.f x210003 0 (wrap64 (x3 - 1))).bind fun t215 => (if t215 = true then (if x210004 = 0 then (spec_PolicyOk.l0 k (wrap64 (x3 + 1)) x207000) else (some false)) else (some false))) else (some false))) else (some false))
end
def spec_PolicyOk.f (k : Nat) (l0_0 : List (S105)) : Option (Bool) := (spec_l01In.f (l0_0.length : Int) 1 40).bind fun t207 => (if t207 = true then (spec_PolicyOk.l0 k 0 l0_0) else (some false))
set_option maxHeartbeats 8000000 in
set_option maxRecDepth 100000 in
theorem spec_PolicyOk.calls (k : Nat) (A0_0 : Option Addr) (c0_0 : Nat) (l0_0 : List (S105)) (r : Bool) (w : World) (hr0_0 : Kd.C k105 w A0_0 l0_0.length l0_0) (hc0_0 : l0_0.length ≤ c0_0) (h : spec_PolicyOk.f k l0_0 = some r) :
  Calls Try.prog 19 #[.agg #[.slice A0_0 l0_0.length c0_0]] w fun e w' => e = .returned (.bool r) ∧ Below w.heap.size w w' := by
 have hu39 := Try.underlying39
 have hu105 := Try.underlying105
 have hu27 := Try.underlying27
 have HR0_0 := Aside0.mk hr0_0
 have HC0_0 := Aside0.mk hc0_0
 clear hr0_0 hc0_0
 have HB := Aside0.mk (Below.refl w.heap.size w)
 have H : ((spec_l01In.f (l0_0.length : Int) 1 40).bind fun t207 => (if t207 = true then (spec_PolicyOk.l0 k 0 l0_0) else (some false))) = some r := h
 clear h
 obtain ⟨t207, A2, H⟩ := bindE_ H
 by_cases c3 : t207 = true
 ·subst c3
  replace H := ite_t_ H
  have H' := Aside0.mk H
  clear H
  go_enter Try.func19, Try.ntmps19
  go_wp2_with (first | ((with_reducible refine gate_dst (N := 1) rfl ?_); refine box_event ?hg (N := 1) ?hd (cs := #[.slice A0_0 l0_0.length c0_0]) (t := 39) ?hr ?_; (case hd => rfl); (case hg => rfl); (case hr => first | (go_simp; done) | (go_simp; rfl)); intro gb206 hg w4 hbox hb; have BK206 := Aside0.mk (hbox); have GW206 := gs_ hg; have GE206 := gs_ hg; replace HB := hbs_ hb; clear hb hbox hg; have hcz5 := blk_cell BK206.out; have hfz5 := blk_frozen BK206.out) | ((with_reducible refine gate_callee (f := 75) rfl ?_); refine goesC_ (some 8) Try.func75 #[.int .i64 (l0_0.length : Int), .int .i64 1, .int .i64 40] ?_; (with_reducible refine (spec_l01In.calls (l0_0.length : Int) 1 40 true _ A2.out).mono ?_); rintro e w' ⟨rfl, ⟨nd, rfl⟩⟩; refine ⟨_, rfl, ?_⟩))
  go_loopg [3] k (fun kq v3 w' => ∃ (x3_1 : Int), v3 = .int .i64 x3_1 ∧ Aside0 (spec_PolicyOk.l0 kq x3_1 l0_0 = some r) ∧ Aside0 (kq ≤ k) ∧ Aside0 (w'.heap[gb206]? = some (.cells #[(.slice A0_0 l0_0.length c0_0)] 39 (0, 0))) ∧ Aside0 (Below w.heap.size w w'))
  case atStart => exact ⟨(0), (by first | rfl | (simp; done) | (simp [*]; done)), H', ⟨Nat.le_refl _⟩, ⟨bk_ BK206⟩, ⟨bl_⟩⟩
  case round =>
   clear H'
   try clear c1
   try clear p2
   try clear c3
   try clear hcz5
   try clear hfz5
   obtain ⟨x3_1, rfl, HA, HK1, BK206, HB⟩ := hrel
   cases gk with
   | zero => exact absurd HA.out (by simp [spec_PolicyOk.l0])
   | succ k1 =>
    have H := HA.out
    clear HA
    simp only [spec_PolicyOk.l0] at H
    by_cases c6 : x3_1 < (l0_0.length : Int)
    ·rw [if_pos c6] at H
     have c6b0 : decide (x3_1 < (l0_0.length : Int)) = true := decide_eq_true c6
     clear c6
     by_cases c7 : 0 ≤ x3_1
     ·rw [if_pos c7] at H
      have c7b0 : decide (0 ≤ x3_1) = true := decide_eq_true c7
      clear c7
      by_cases c8 : ((rd_T105 l0_0 x3_1).f0) = 1
      ·rw [if_pos c8] at H
       have c8b0 : (((rd_T105 l0_0 x3_1).f0) == 1) = true := beq_iff_eq.mpr c8
       have c8b1 : (((rd_T105 l0_0 x3_1).f0) != 1) = false := bne_eq_false_iff_eq.mpr c8
       clear c8
       obtain ⟨t210, A9, H⟩ := bindE_ H
       by_cases c10 : t210 = true
       ·subst c10
        replace H := ite_t_ H
        by_cases c11 : ((rd_T105 l0_0 x3_1).f2) = 0
        ·rw [if_pos c11] at H
         have c11b0 : (((rd_T105 l0_0 x3_1).f2) == 0) = true := beq_iff_eq.mpr c11
         have c11b1 : (((rd_T105 l0_0 x3_1).f2) != 0) = false := bne_eq_false_iff_eq.mpr c11
         clear c11
         by_cases c12 : ((rd_T105 l0_0 x3_1).f3) = 0
         ·rw [if_pos c12] at H
          have c12b0 : (((rd_T105 l0_0 x3_1).f3) == 0) = true := beq_iff_eq.mpr c12
          have c12b1 : (((rd_T105 l0_0 x3_1).f3) != 0) = false := bne_eq_false_iff_eq.mpr c12
          clear c12
          have H' := Aside0.mk H
          clear H
          have hcz13 := blk_cell BK206.out
          have hfz13 := blk_frozen BK206.out
          have p208 : 0 ≤ (x3_1 : Int) := of_decide_eq_true (by first | (with_reducible assumption) | assumption)
          have q208 : x3_1 < (l0_0.length : Int) := of_decide_eq_true (by first | (with_reducible assumption) | assumption)
          obtain ⟨ad208, e208, hx208_0, hx208_1, hx208_2, hx208_3, hx208_4⟩ := at_T105 (Kd.C_below HR0_0.out HB.out) x3_1 p208 q208
          cases e208
          replace p208 := eq_true p208
          replace q208 := eq_true q208
          go_wp2_with (first | ((with_reducible refine gate_dst (N := 4) rfl ?_); refine box_event ?hg (N := 4) ?hd (cs := #[.int .i64 0, .int .i64 0, .int .i64 0, .int .i64 0, .int .i64 0]) (t := 105) ?hr ?_; (case hd => rfl); (case hg => rfl); (case hr => first | (go_simp; done) | (go_simp; rfl)); intro gb209 hg w14 hbox hb; have BK209 := Aside0.mk (hbox); have GW209 := gs_ hg; have GE209 := gs_ hg; replace HB := hbs_ hb; have NB206_209 := Aside0.mk ((by rw [hg]; exact Nat.ne_of_lt (blk_lt (g := gb206) (o := .cells #[.slice (some ad208) l0_0.length c0_0] 39 (0, 0)) (bk_ BK206)) : gb206 ≠ gb209)); have NB209_206 := Aside0.mk ((by rw [hg]; exact Nat.ne_of_gt (blk_lt (g := gb206) (o := .cells #[.slice (some ad208) l0_0.length c0_0] 39 (0, 0)) (bk_ BK206)) : gb209 ≠ gb206)); replace BK206 := bkb_ BK206 hb; clear hb hbox hg; have hnb15 := NB209_206.out; have hnc15 := NB206_209.out; have hcz16 := blk_cell BK209.out; have hfz16 := blk_frozen BK209.out) | ((with_reducible refine gate_callee (f := 76) rfl ?_); refine goesC_ (some 28) Try.func76 #[.agg #[.int .i64 ((rd_T105 l0_0 x3_1).f1.f0), .int .i64 ((rd_T105 l0_0 x3_1).f1.f1)]] ?_; (with_reducible refine (spec_RoleOk.calls ((rd_T105 l0_0 x3_1).f1.f0) ((rd_T105 l0_0 x3_1).f1.f1) true _ A9.out).mono ?_); rintro e w17 ⟨rfl, hb⟩; refine ⟨_, rfl, ?_⟩; replace BK206 := Aside0.mk (blk_below (g := gb206) (o := .cells #[.slice (some ad208) l0_0.length c0_0] 39 (0, 0)) (bk_ BK206) hb); replace BK209 := Aside0.mk (blk_below (g := gb209) (o := .cells #[.int .i64 ((rd_T105 l0_0 x3_1).f0), .int .i64 ((rd_T105 l0_0 x3_1).f1.f0), .int .i64 ((rd_T105 l0_0 x3_1).f1.f1), .int .i64 ((rd_T105 l0_0 x3_1).f2), .int .i64 ((rd_T105 l0_0 x3_1).f3)] 105 (0, 0)) (bk_ BK209) hb); replace HB := hbs_ hb; clear hb; have hcz18 := blk_cell BK209.out; have hfz18 := blk_frozen BK209.out))
          go_roundg k1
          case measure => have := HK1.out; omega
          case rel => exact ⟨(wrap64 (x3_1 + 1)), (by first | rfl | (simp; done) | (simp [*]; done)), H', ⟨by have := HK1.out; omega⟩, ⟨bk_ BK206⟩, ⟨bl_⟩⟩
         ·rw [if_neg c12] at H
          have c12b0 : (((rd_T105 l0_0 x3_1).f3) == 0) = false := beq_eq_false_iff_ne.mpr c12
          have c12b1 : (((rd_T105 l0_0 x3_1).f3) != 0) = true := bne_iff_ne.mpr c12
          obtain rfl := Option.some.inj H
          have hcz19 := blk_cell BK206.out
          have hfz19 := blk_frozen BK206.out
          have p208 : 0 ≤ (x3_1 : Int) := of_decide_eq_true (by first | (with_reducible assumption) | assumption)
          have q208 : x3_1 < (l0_0.length : Int) := of_decide_eq_true (by first | (with_reducible assumption) | assumption)
          obtain ⟨ad208, e208, hx208_0, hx208_1, hx208_2, hx208_3, hx208_4⟩ := at_T105 (Kd.C_below HR0_0.out HB.out) x3_1 p208 q208
          cases e208
          replace p208 := eq_true p208
          replace q208 := eq_true q208
          go_wp2_with (first | ((with_reducible refine gate_dst (N := 4) rfl ?_); refine box_event ?hg (N := 4) ?hd (cs := #[.int .i64 0, .int .i64 0, .int .i64 0, .int .i64 0, .int .i64 0]) (t := 105) ?hr ?_; (case hd => rfl); (case hg => rfl); (case hr => first | (go_simp; done) | (go_simp; rfl)); intro gb209 hg w20 hbox hb; have BK209 := Aside0.mk (hbox); have GW209 := gs_ hg; have GE209 := gs_ hg; replace HB := hbs_ hb; have NB206_209 := Aside0.mk ((by rw [hg]; exact Nat.ne_of_lt (blk_lt (g := gb206) (o := .cells #[.slice (some ad208) l0_0.length c0_0] 39 (0, 0)) (bk_ BK206)) : gb206 ≠ gb209)); have NB209_206 := Aside0.mk ((by rw [hg]; exact Nat.ne_of_gt (blk_lt (g := gb206) (o := .cells #[.slice (some ad208) l0_0.length c0_0] 39 (0, 0)) (bk_ BK206)) : gb209 ≠ gb206)); replace BK206 := bkb_ BK206 hb; clear hb hbox hg; have hnb21 := NB209_206.out; have hnc21 := NB206_209.out; have hcz22 := blk_cell BK209.out; have hfz22 := blk_frozen BK209.out) | ((with_reducible refine gate_callee (f := 76) rfl ?_); refine goesC_ (some 28) Try.func76 #[.agg #[.int .i64 ((rd_T105 l0_0 x3_1).f1.f0), .int .i64 ((rd_T105 l0_0 x3_1).f1.f1)]] ?_; (with_reducible refine (spec_RoleOk.calls ((rd_T105 l0_0 x3_1).f1.f0) ((rd_T105 l0_0 x3_1).f1.f1) true _ A9.out).mono ?_); rintro e w23 ⟨rfl, hb⟩; refine ⟨_, rfl, ?_⟩; replace BK206 := Aside0.mk (blk_below (g := gb206) (o := .cells #[.slice (some ad208) l0_0.length c0_0] 39 (0, 0)) (bk_ BK206) hb); replace BK209 := Aside0.mk (blk_below (g := gb209) (o := .cells #[.int .i64 ((rd_T105 l0_0 x3_1).f0), .int .i64 ((rd_T105 l0_0 x3_1).f1.f0), .int .i64 ((rd_T105 l0_0 x3_1).f1.f1), .int .i64 ((rd_T105 l0_0 x3_1).f2), .int .i64 ((rd_T105 l0_0 x3_1).f3)] 105 (0, 0)) (bk_ BK209) hb); replace HB := hbs_ hb; clear hb; have hcz24 := blk_cell BK209.out; have hfz24 := blk_frozen BK209.out))
          go_ret
          exact ⟨eq_, bl_⟩
        ·rw [if_neg c11] at H
         have c11b0 : (((rd_T105 l0_0 x3_1).f2) == 0) = false := beq_eq_false_iff_ne.mpr c11
         have c11b1 : (((rd_T105 l0_0 x3_1).f2) != 0) = true := bne_iff_ne.mpr c11
         obtain rfl := Option.some.inj H
         have hcz25 := blk_cell BK206.out
         have hfz25 := blk_frozen BK206.out
         have p208 : 0 ≤ (x3_1 : Int) := of_decide_eq_true (by first | (with_reducible assumption) | assumption)
         have q208 : x3_1 < (l0_0.length : Int) := of_decide_eq_true (by first | (with_reducible assumption) | assumption)
         obtain ⟨ad208, e208, hx208_0, hx208_1, hx208_2, hx208_3, hx208_4⟩ := at_T105 (Kd.C_below HR0_0.out HB.out) x3_1 p208 q208
         cases e208
         replace p208 := eq_true p208
         replace q208 := eq_true q208
         go_wp2_with (first | ((with_reducible refine gate_dst (N := 4) rfl ?_); refine box_event ?hg (N := 4) ?hd (cs := #[.int .i64 0, .int .i64 0, .int .i64 0, .int .i64 0, .int .i64 0]) (t := 105) ?hr ?_; (case hd => rfl); (case hg => rfl); (case hr => first | (go_simp; done) | (go_simp; rfl)); intro gb209 hg w26 hbox hb; have BK209 := Aside0.mk (hbox); have GW209 := gs_ hg; have GE209 := gs_ hg; replace HB := hbs_ hb; have NB206_209 := Aside0.mk ((by rw [hg]; exact Nat.ne_of_lt (blk_lt (g := gb206) (o := .cells #[.slice (some ad208) l0_0.length c0_0] 39 (0, 0)) (bk_ BK206)) : gb206 ≠ gb209)); have NB209_206 := Aside0.mk ((by rw [hg]; exact Nat.ne_of_gt (blk_lt (g := gb206) (o := .cells #[.slice (some ad208) l0_0.length c0_0] 39 (0, 0)) (bk_ BK206)) : gb209 ≠ gb206)); replace BK206 := bkb_ BK206 hb; clear hb hbox hg; have hnb27 := NB209_206.out; have hnc27 := NB206_209.out; have hcz28 := blk_cell BK209.out; have hfz28 := blk_frozen BK209.out) | ((with_reducible refine gate_callee (f := 76) rfl ?_); refine goesC_ (some 28) Try.func76 #[.agg #[.int .i64 ((rd_T105 l0_0 x3_1).f1.f0), .int .i64 ((rd_T105 l0_0 x3_1).f1.f1)]] ?_; (with_reducible refine (spec_RoleOk.calls ((rd_T105 l0_0 x3_1).f1.f0) ((rd_T105 l0_0 x3_1).f1.f1) true _ A9.out).mono ?_); rintro e w29 ⟨rfl, hb⟩; refine ⟨_, rfl, ?_⟩; replace BK206 := Aside0.mk (blk_below (g := gb206) (o := .cells #[.slice (some ad208) l0_0.length c0_0] 39 (0, 0)) (bk_ BK206) hb); replace BK209 := Aside0.mk (blk_below (g := gb209) (o := .cells #[.int .i64 ((rd_T105 l0_0 x3_1).f0), .int .i64 ((rd_T105 l0_0 x3_1).f1.f0), .int .i64 ((rd_T105 l0_0 x3_1).f1.f1), .int .i64 ((rd_T105 l0_0 x3_1).f2), .int .i64 ((rd_T105 l0_0 x3_1).f3)] 105 (0, 0)) (bk_ BK209) hb); replace HB := hbs_ hb; clear hb; have hcz30 := blk_cell BK209.out; have hfz30 := blk_frozen BK209.out))
         go_ret
         exact ⟨eq_, bl_⟩
       ·replace c10 := Bool.eq_false_iff.mpr c10
        subst c10
        replace H := ite_f_ H
        obtain rfl := Option.some.inj H
        have hcz31 := blk_cell BK206.out
        have hfz31 := blk_frozen BK206.out
        have p208 : 0 ≤ (x3_1 : Int) := of_decide_eq_true (by first | (with_reducible assumption) | assumption)
        have q208 : x3_1 < (l0_0.length : Int) := of_decide_eq_true (by first | (with_reducible assumption) | assumption)
        obtain ⟨ad208, e208, hx208_0, hx208_1, hx208_2, hx208_3, hx208_4⟩ := at_T105 (Kd.C_below HR0_0.out HB.out) x3_1 p208 q208
        cases e208
        replace p208 := eq_true p208
        replace q208 := eq_true q208
        go_wp2_with (first | ((with_reducible refine gate_dst (N := 4) rfl ?_); refine box_event ?hg (N := 4) ?hd (cs := #[.int .i64 0, .int .i64 0, .int .i64 0, .int .i64 0, .int .i64 0]) (t := 105) ?hr ?_; (case hd => rfl); (case hg => rfl); (case hr => first | (go_simp; done) | (go_simp; rfl)); intro gb209 hg w32 hbox hb; have BK209 := Aside0.mk (hbox); have GW209 := gs_ hg; have GE209 := gs_ hg; replace HB := hbs_ hb; have NB206_209 := Aside0.mk ((by rw [hg]; exact Nat.ne_of_lt (blk_lt (g := gb206) (o := .cells #[.slice (some ad208) l0_0.length c0_0] 39 (0, 0)) (bk_ BK206)) : gb206 ≠ gb209)); have NB209_206 := Aside0.mk ((by rw [hg]; exact Nat.ne_of_gt (blk_lt (g := gb206) (o := .cells #[.slice (some ad208) l0_0.length c0_0] 39 (0, 0)) (bk_ BK206)) : gb209 ≠ gb206)); replace BK206 := bkb_ BK206 hb; clear hb hbox hg; have hnb33 := NB209_206.out; have hnc33 := NB206_209.out; have hcz34 := blk_cell BK209.out; have hfz34 := blk_frozen BK209.out) | ((with_reducible refine gate_callee (f := 76) rfl ?_); refine goesC_ (some 28) Try.func76 #[.agg #[.int .i64 ((rd_T105 l0_0 x3_1).f1.f0), .int .i64 ((rd_T105 l0_0 x3_1).f1.f1)]] ?_; (with_reducible refine (spec_RoleOk.calls ((rd_T105 l0_0 x3_1).f1.f0) ((rd_T105 l0_0 x3_1).f1.f1) false _ A9.out).mono ?_); rintro e w35 ⟨rfl, hb⟩; refine ⟨_, rfl, ?_⟩; replace BK206 := Aside0.mk (blk_below (g := gb206) (o := .cells #[.slice (some ad208) l0_0.length c0_0] 39 (0, 0)) (bk_ BK206) hb); replace BK209 := Aside0.mk (blk_below (g := gb209) (o := .cells #[.int .i64 ((rd_T105 l0_0 x3_1).f0), .int .i64 ((rd_T105 l0_0 x3_1).f1.f0), .int .i64 ((rd_T105 l0_0 x3_1).f1.f1), .int .i64 ((rd_T105 l0_0 x3_1).f2), .int .i64 ((rd_T105 l0_0 x3_1).f3)] 105 (0, 0)) (bk_ BK209) hb); replace HB := hbs_ hb; clear hb))
        go_ret
        exact ⟨eq_, bl_⟩
      ·rw [if_neg c8] at H
       have c8b0 : (((rd_T105 l0_0 x3_1).f0) == 1) = false := beq_eq_false_iff_ne.mpr c8
       have c8b1 : (((rd_T105 l0_0 x3_1).f0) != 1) = true := bne_iff_ne.mpr c8
       have HC36 := Aside0.mk H
       clear H
       have hcz37 := blk_cell BK206.out
       have hfz37 := blk_frozen BK206.out
       have p208 : 0 ≤ (x3_1 : Int) := of_decide_eq_true (by first | (with_reducible assumption) | assumption)
       have q208 : x3_1 < (l0_0.length : Int) := of_decide_eq_true (by first | (with_reducible assumption) | assumption)
       obtain ⟨ad208, e208, hx208_0, hx208_1, hx208_2, hx208_3, hx208_4⟩ := at_T105 (Kd.C_below HR0_0.out HB.out) x3_1 p208 q208
       cases e208
       replace p208 := eq_true p208
       replace q208 := eq_true q208
       go_upto_if 40 with (first | ((with_reducible refine gate_dst (N := 4) rfl ?_); refine box_event ?hg (N := 4) ?hd (cs := #[.int .i64 0, .int .i64 0, .int .i64 0, .int .i64 0, .int .i64 0]) (t := 105) ?hr ?_; (case hd => rfl); (case hg => rfl); (case hr => first | (go_simp; done) | (go_simp; rfl)); intro gb209 hg w38 hbox hb; have BK209 := Aside0.mk (hbox); have GW209 := gs_ hg; have GE209 := gs_ hg; replace HB := hbs_ hb; have NB206_209 := Aside0.mk ((by rw [hg]; exact Nat.ne_of_lt (blk_lt (g := gb206) (o := .cells #[.slice (some ad208) l0_0.length c0_0] 39 (0, 0)) (bk_ BK206)) : gb206 ≠ gb209)); have NB209_206 := Aside0.mk ((by rw [hg]; exact Nat.ne_of_gt (blk_lt (g := gb206) (o := .cells #[.slice (some ad208) l0_0.length c0_0] 39 (0, 0)) (bk_ BK206)) : gb209 ≠ gb206)); replace BK206 := bkb_ BK206 hb; clear hb hbox hg; have hnb39 := NB209_206.out; have hnc39 := NB206_209.out; have hcz40 := blk_cell BK209.out; have hfz40 := blk_frozen BK209.out))
       (try simp only [Act.put, List.setIfInBounds_toArray, List.set_cons_zero, List.set_cons_succ])
       go_cut [40] (fun v40 wc => ∃ (kq : Nat) (x40_35 : Bool), v40 = .bool x40_35 ∧ Aside0 (spec_PolicyOk.j1 kq x3_1 ((rd_T105 l0_0 x3_1).f0) x40_35 l0_0 ((rd_T105 l0_0 x3_1).f0) ((rd_T105 l0_0 x3_1).f1.f0) ((rd_T105 l0_0 x3_1).f1.f1) ((rd_T105 l0_0 x3_1).f2) ((rd_T105 l0_0 x3_1).f3) = some r) ∧ Aside0 (kq ≤ k1) ∧ Aside0 (wc.heap[gb206]? = some (.cells #[(.slice (some ad208) l0_0.length c0_0)] 39 (0, 0))) ∧ Aside0 (wc.heap[gb209]? = some (.cells #[.int .i64 ((rd_T105 l0_0 x3_1).f0), .int .i64 ((rd_T105 l0_0 x3_1).f1.f0), .int .i64 ((rd_T105 l0_0 x3_1).f1.f1), .int .i64 ((rd_T105 l0_0 x3_1).f2), .int .i64 ((rd_T105 l0_0 x3_1).f3)] 105 (0, 0))) ∧ Aside0 (Below w.heap.size w wc))
       case first =>
        have H := HC36.out
        clear HC36
        by_cases c41 : ((rd_T105 l0_0 x3_1).f0) = 2
        ·rw [if_pos c41] at H
         have c41b0 : (((rd_T105 l0_0 x3_1).f0) == 2) = true := beq_iff_eq.mpr c41
         have c41b1 : (((rd_T105 l0_0 x3_1).f0) != 2) = false := bne_eq_false_iff_eq.mpr c41
         clear c41
         (first | rw [c41b0] | (simp only [i64_w, i32_w]; rw [c41b0]) | skip)
         have H' := Aside0.mk H
         clear H
         go_wp2
         go_meet
         case rel => exact ⟨_, ((((rd_T105 l0_0 x3_1).f0) == 2)), (by first | rfl | (simp; done) | (simp [*]; done)), H', ⟨by have := HK1.out; first | omega | exact Nat.le_refl _⟩, ⟨bk_ BK206⟩, ⟨bk_ BK209⟩, ⟨bl_⟩⟩
        ·rw [if_neg c41] at H
         have c41b0 : (((rd_T105 l0_0 x3_1).f0) == 2) = false := beq_eq_false_iff_ne.mpr c41
         have c41b1 : (((rd_T105 l0_0 x3_1).f0) != 2) = true := bne_iff_ne.mpr c41
         (first | rw [c41b0] | (simp only [i64_w, i32_w]; rw [c41b0]) | skip)
         have H' := Aside0.mk H
         clear H
         go_wp2
         go_meet
         case rel => exact ⟨_, ((((rd_T105 l0_0 x3_1).f0) == 3)), (by first | rfl | (simp; done) | (simp [*]; done)), H', ⟨by have := HK1.out; first | omega | exact Nat.le_refl _⟩, ⟨bk_ BK206⟩, ⟨bk_ BK209⟩, ⟨bl_⟩⟩
       case rest =>
        clear HC36
        try clear c1
        try clear c2
        try clear p2
        try clear q2
        try clear hx2
        try clear c3
        try clear c4
        try clear c6
        try clear c6b0
        try clear p6
        try clear c7
        try clear c7b0
        try clear c8
        try clear c8b0
        try clear c8b1
        try clear c10
        try clear c11
        try clear c11b0
        try clear c11b1
        try clear c12
        try clear c12b0
        try clear c12b1
        try clear c15
        try clear c19
        try clear p20
        try clear q20
        try clear hx20
        try clear c21
        try clear c27
        try clear c33
        try clear c39
        try clear c41
        try clear c41b0
        try clear c41b1
        try clear hcz13
        try clear hcz16
        try clear hcz18
        try clear hcz19
        try clear hcz22
        try clear hcz24
        try clear hcz25
        try clear hcz28
        try clear hcz30
        try clear hcz31
        try clear hcz34
        try clear hcz37
        try clear hcz40
        try clear hcz5
        try clear hfz13
        try clear hfz16
        try clear hfz18
        try clear hfz19
        try clear hfz22
        try clear hfz24
        try clear hfz25
        try clear hfz28
        try clear hfz30
        try clear hfz31
        try clear hfz34
        try clear hfz37
        try clear hfz40
        try clear hfz5
        try clear hx208_0
        try clear hx208_1
        try clear hx208_2
        try clear hx208_3
        try clear hx208_4
        try clear p2
        try clear p208
        try clear q208
        obtain ⟨kq, x40_35, rfl, HA, HJ35, BK206, BK209, HB⟩ := hcut
        cases kq with
        | zero => exact absurd HA.out (by simp [spec_PolicyOk.j1])
        | succ kj35 =>
         have H := HA.out
         clear HA
         simp only [spec_PolicyOk.j1] at H
         by_cases c42 : x40_35 = true
         ·subst c42
          replace H := ite_t_ H
          obtain ⟨t211, A43, H⟩ := bindE_ H
          by_cases c44 : t211 = true
          ·subst c44
           replace H := ite_t_ H
           obtain ⟨t212, A45, H⟩ := bindE_ H
           by_cases c46 : t212 = true
           ·subst c46
            replace H := ite_t_ H
            obtain ⟨t213, A47, H⟩ := bindE_ H
            by_cases c48 : t213 = true
            ·subst c48
             replace H := ite_t_ H
             have H' := Aside0.mk H
             clear H
             have hnb49 := NB209_206.out
             have hnc49 := NB206_209.out
             have hcz50 := blk_cell BK209.out
             have hfz50 := blk_frozen BK209.out
             go_wp2_with (first | ((with_reducible refine gate_callee (f := 77) rfl ?_); refine goesC_ (some 45) Try.func77 #[.agg #[.int .i64 ((rd_T105 l0_0 x3_1).f1.f0), .int .i64 ((rd_T105 l0_0 x3_1).f1.f1)]] ?_; (with_reducible refine (spec_l21None.calls ((rd_T105 l0_0 x3_1).f1.f0) ((rd_T105 l0_0 x3_1).f1.f1) true _ A43.out).mono ?_); rintro e w51 ⟨rfl, hb⟩; refine ⟨_, rfl, ?_⟩; replace BK206 := bkb_ BK206 hb; replace BK209 := bkb_ BK209 hb; replace HB := hbs_ hb; clear hb; have hcz52 := blk_cell BK209.out; have hfz52 := blk_frozen BK209.out) | (go_at_call 75; (with_reducible refine (spec_l01In.calls ((rd_T105 l0_0 x3_1).f2) 0 (wrap64 (x3_1 - 1)) true _ A45.out).mono ?_); rintro e w' ⟨rfl, ⟨nd, rfl⟩⟩) | (go_at_call 75; (with_reducible refine (spec_l01In.calls ((rd_T105 l0_0 x3_1).f3) 0 (wrap64 (x3_1 - 1)) true _ A47.out).mono ?_); rintro e w' ⟨rfl, ⟨nd, rfl⟩⟩))
             go_roundg kj35
             case measure => have := HK1.out; have := HJ35.out; omega
             case rel => exact ⟨(wrap64 (x3_1 + 1)), (by first | rfl | (simp; done) | (simp [*]; done)), H', ⟨by have := HK1.out; have := HJ35.out; omega⟩, ⟨bk_ BK206⟩, ⟨bl_⟩⟩
            ·replace c48 := Bool.eq_false_iff.mpr c48
             subst c48
             replace H := ite_f_ H
             obtain rfl := Option.some.inj H
             have hnb53 := NB209_206.out
             have hnc53 := NB206_209.out
             have hcz54 := blk_cell BK209.out
             have hfz54 := blk_frozen BK209.out
             go_wp2_with (first | ((with_reducible refine gate_callee (f := 77) rfl ?_); refine goesC_ (some 45) Try.func77 #[.agg #[.int .i64 ((rd_T105 l0_0 x3_1).f1.f0), .int .i64 ((rd_T105 l0_0 x3_1).f1.f1)]] ?_; (with_reducible refine (spec_l21None.calls ((rd_T105 l0_0 x3_1).f1.f0) ((rd_T105 l0_0 x3_1).f1.f1) true _ A43.out).mono ?_); rintro e w55 ⟨rfl, hb⟩; refine ⟨_, rfl, ?_⟩; replace BK206 := bkb_ BK206 hb; replace BK209 := bkb_ BK209 hb; replace HB := hbs_ hb; clear hb; have hcz56 := blk_cell BK209.out; have hfz56 := blk_frozen BK209.out) | (go_at_call 75; (with_reducible refine (spec_l01In.calls ((rd_T105 l0_0 x3_1).f2) 0 (wrap64 (x3_1 - 1)) true _ A45.out).mono ?_); rintro e w' ⟨rfl, ⟨nd, rfl⟩⟩) | (go_at_call 75; (with_reducible refine (spec_l01In.calls ((rd_T105 l0_0 x3_1).f3) 0 (wrap64 (x3_1 - 1)) false _ A47.out).mono ?_); rintro e w' ⟨rfl, ⟨nd, rfl⟩⟩))
             go_ret
             exact ⟨eq_, bl_⟩
           ·replace c46 := Bool.eq_false_iff.mpr c46
            subst c46
            replace H := ite_f_ H
            obtain rfl := Option.some.inj H
            have hnb57 := NB209_206.out
            have hnc57 := NB206_209.out
            have hcz58 := blk_cell BK209.out
            have hfz58 := blk_frozen BK209.out
            go_wp2_with (first | ((with_reducible refine gate_callee (f := 77) rfl ?_); refine goesC_ (some 45) Try.func77 #[.agg #[.int .i64 ((rd_T105 l0_0 x3_1).f1.f0), .int .i64 ((rd_T105 l0_0 x3_1).f1.f1)]] ?_; (with_reducible refine (spec_l21None.calls ((rd_T105 l0_0 x3_1).f1.f0) ((rd_T105 l0_0 x3_1).f1.f1) true _ A43.out).mono ?_); rintro e w59 ⟨rfl, hb⟩; refine ⟨_, rfl, ?_⟩; replace BK206 := bkb_ BK206 hb; replace BK209 := bkb_ BK209 hb; replace HB := hbs_ hb; clear hb; have hcz60 := blk_cell BK209.out; have hfz60 := blk_frozen BK209.out) | (go_at_call 75; (with_reducible refine (spec_l01In.calls ((rd_T105 l0_0 x3_1).f2) 0 (wrap64 (x3_1 - 1)) false _ A45.out).mono ?_); rintro e w' ⟨rfl, ⟨nd, rfl⟩⟩))
            go_ret
            exact ⟨eq_, bl_⟩
          ·replace c44 := Bool.eq_false_iff.mpr c44
           subst c44
           replace H := ite_f_ H
           obtain rfl := Option.some.inj H
           have hnb61 := NB209_206.out
           have hnc61 := NB206_209.out
           have hcz62 := blk_cell BK209.out
           have hfz62 := blk_frozen BK209.out
           go_wp2_with (first | ((with_reducible refine gate_callee (f := 77) rfl ?_); refine goesC_ (some 45) Try.func77 #[.agg #[.int .i64 ((rd_T105 l0_0 x3_1).f1.f0), .int .i64 ((rd_T105 l0_0 x3_1).f1.f1)]] ?_; (with_reducible refine (spec_l21None.calls ((rd_T105 l0_0 x3_1).f1.f0) ((rd_T105 l0_0 x3_1).f1.f1) false _ A43.out).mono ?_); rintro e w63 ⟨rfl, hb⟩; refine ⟨_, rfl, ?_⟩; replace BK206 := bkb_ BK206 hb; replace BK209 := bkb_ BK209 hb; replace HB := hbs_ hb; clear hb))
           go_ret
           exact ⟨eq_, bl_⟩
         ·replace c42 := Bool.eq_false_iff.mpr c42
          subst c42
          replace H := ite_f_ H
          by_cases c64 : ((rd_T105 l0_0 x3_1).f0) = 4
          ·rw [if_pos c64] at H
           have c64b0 : (((rd_T105 l0_0 x3_1).f0) == 4) = true := beq_iff_eq.mpr c64
           have c64b1 : (((rd_T105 l0_0 x3_1).f0) != 4) = false := bne_eq_false_iff_eq.mpr c64
           clear c64
           obtain ⟨t214, A65, H⟩ := bindE_ H
           by_cases c66 : t214 = true
           ·subst c66
            replace H := ite_t_ H
            obtain ⟨t215, A67, H⟩ := bindE_ H
            by_cases c68 : t215 = true
            ·subst c68
             replace H := ite_t_ H
             by_cases c69 : ((rd_T105 l0_0 x3_1).f3) = 0
             ·rw [if_pos c69] at H
              have c69b0 : (((rd_T105 l0_0 x3_1).f3) == 0) = true := beq_iff_eq.mpr c69
              have c69b1 : (((rd_T105 l0_0 x3_1).f3) != 0) = false := bne_eq_false_iff_eq.mpr c69
              clear c69
              have H' := Aside0.mk H
              clear H
              have hnb70 := NB209_206.out
              have hnc70 := NB206_209.out
              have hcz71 := blk_cell BK209.out
              have hfz71 := blk_frozen BK209.out
              go_wp2_with (first | ((with_reducible refine gate_callee (f := 77) rfl ?_); refine goesC_ (some 67) Try.func77 #[.agg #[.int .i64 ((rd_T105 l0_0 x3_1).f1.f0), .int .i64 ((rd_T105 l0_0 x3_1).f1.f1)]] ?_; (with_reducible refine (spec_l21None.calls ((rd_T105 l0_0 x3_1).f1.f0) ((rd_T105 l0_0 x3_1).f1.f1) true _ A65.out).mono ?_); rintro e w72 ⟨rfl, hb⟩; refine ⟨_, rfl, ?_⟩; replace BK206 := bkb_ BK206 hb; replace BK209 := bkb_ BK209 hb; replace HB := hbs_ hb; clear hb; have hcz73 := blk_cell BK209.out; have hfz73 := blk_frozen BK209.out) | (go_at_call 75; (with_reducible refine (spec_l01In.calls ((rd_T105 l0_0 x3_1).f2) 0 (wrap64 (x3_1 - 1)) true _ A67.out).mono ?_); rintro e w' ⟨rfl, ⟨nd, rfl⟩⟩))
              go_roundg kj35
              case measure => have := HK1.out; have := HJ35.out; omega
              case rel => exact ⟨(wrap64 (x3_1 + 1)), (by first | rfl | (simp; done) | (simp [*]; done)), H', ⟨by have := HK1.out; have := HJ35.out; omega⟩, ⟨bk_ BK206⟩, ⟨bl_⟩⟩
             ·rw [if_neg c69] at H
              have c69b0 : (((rd_T105 l0_0 x3_1).f3) == 0) = false := beq_eq_false_iff_ne.mpr c69
              have c69b1 : (((rd_T105 l0_0 x3_1).f3) != 0) = true := bne_iff_ne.mpr c69
              obtain rfl := Option.some.inj H
              have hnb74 := NB209_206.out
              have hnc74 := NB206_209.out
              have hcz75 := blk_cell BK209.out
              have hfz75 := blk_frozen BK209.out
              go_wp2_with (first | ((with_reducible refine gate_callee (f := 77) rfl ?_); refine goesC_ (some 67) Try.func77 #[.agg #[.int .i64 ((rd_T105 l0_0 x3_1).f1.f0), .int .i64 ((rd_T105 l0_0 x3_1).f1.f1)]] ?_; (with_reducible refine (spec_l21None.calls ((rd_T105 l0_0 x3_1).f1.f0) ((rd_T105 l0_0 x3_1).f1.f1) true _ A65.out).mono ?_); rintro e w76 ⟨rfl, hb⟩; refine ⟨_, rfl, ?_⟩; replace BK206 := bkb_ BK206 hb; replace BK209 := bkb_ BK209 hb; replace HB := hbs_ hb; clear hb; have hcz77 := blk_cell BK209.out; have hfz77 := blk_frozen BK209.out) | (go_at_call 75; (with_reducible refine (spec_l01In.calls ((rd_T105 l0_0 x3_1).f2) 0 (wrap64 (x3_1 - 1)) true _ A67.out).mono ?_); rintro e w' ⟨rfl, ⟨nd, rfl⟩⟩))
              go_ret
              exact ⟨eq_, bl_⟩
            ·replace c68 := Bool.eq_false_iff.mpr c68
             subst c68
             replace H := ite_f_ H
             obtain rfl := Option.some.inj H
             have hnb78 := NB209_206.out
             have hnc78 := NB206_209.out
             have hcz79 := blk_cell BK209.out
             have hfz79 := blk_frozen BK209.out
             go_wp2_with (first | ((with_reducible refine gate_callee (f := 77) rfl ?_); refine goesC_ (some 67) Try.func77 #[.agg #[.int .i64 ((rd_T105 l0_0 x3_1).f1.f0), .int .i64 ((rd_T105 l0_0 x3_1).f1.f1)]] ?_; (with_reducible refine (spec_l21None.calls ((rd_T105 l0_0 x3_1).f1.f0) ((rd_T105 l0_0 x3_1).f1.f1) true _ A65.out).mono ?_); rintro e w80 ⟨rfl, hb⟩; refine ⟨_, rfl, ?_⟩; replace BK206 := bkb_ BK206 hb; replace BK209 := bkb_ BK209 hb; replace HB := hbs_ hb; clear hb; have hcz81 := blk_cell BK209.out; have hfz81 := blk_frozen BK209.out) | (go_at_call 75; (with_reducible refine (spec_l01In.calls ((rd_T105 l0_0 x3_1).f2) 0 (wrap64 (x3_1 - 1)) false _ A67.out).mono ?_); rintro e w' ⟨rfl, ⟨nd, rfl⟩⟩))
             go_ret
             exact ⟨eq_, bl_⟩
           ·replace c66 := Bool.eq_false_iff.mpr c66
            subst c66
            replace H := ite_f_ H
            obtain rfl := Option.some.inj H
            have hnb82 := NB209_206.out
            have hnc82 := NB206_209.out
            have hcz83 := blk_cell BK209.out
            have hfz83 := blk_frozen BK209.out
            go_wp2_with (first | ((with_reducible refine gate_callee (f := 77) rfl ?_); refine goesC_ (some 67) Try.func77 #[.agg #[.int .i64 ((rd_T105 l0_0 x3_1).f1.f0), .int .i64 ((rd_T105 l0_0 x3_1).f1.f1)]] ?_; (with_reducible refine (spec_l21None.calls ((rd_T105 l0_0 x3_1).f1.f0) ((rd_T105 l0_0 x3_1).f1.f1) false _ A65.out).mono ?_); rintro e w84 ⟨rfl, hb⟩; refine ⟨_, rfl, ?_⟩; replace BK206 := bkb_ BK206 hb; replace BK209 := bkb_ BK209 hb; replace HB := hbs_ hb; clear hb))
            go_ret
            exact ⟨eq_, bl_⟩
          ·rw [if_neg c64] at H
           have c64b0 : (((rd_T105 l0_0 x3_1).f0) == 4) = false := beq_eq_false_iff_ne.mpr c64
           have c64b1 : (((rd_T105 l0_0 x3_1).f0) != 4) = true := bne_iff_ne.mpr c64
           obtain rfl := Option.some.inj H
           go_wp2
           go_ret
           exact ⟨eq_, bl_⟩
     ·rw [if_neg c7] at H
      exact absurd H (by simp)
    ·rw [if_neg c6] at H
     have c6b0 : decide (x3_1 < (l0_0.length : Int)) = false := decide_eq_false c6
     clear c6
     obtain rfl := Option.some.inj H
     have hcz85 := blk_cell BK206.out
     have hfz85 := blk_frozen BK206.out
     go_wp2
     go_ret
     exact ⟨eq_, bl_⟩
 ·replace c3 := Bool.eq_false_iff.mpr c3
  subst c3
  replace H := ite_f_ H
  obtain rfl := Option.some.inj H
  go_enter Try.func19, Try.ntmps19
  go_wp2_with (first | ((with_reducible refine gate_dst (N := 1) rfl ?_); refine box_event ?hg (N := 1) ?hd (cs := #[.slice A0_0 l0_0.length c0_0]) (t := 39) ?hr ?_; (case hd => rfl); (case hg => rfl); (case hr => first | (go_simp; done) | (go_simp; rfl)); intro gb206 hg w86 hbox hb; have BK206 := Aside0.mk (hbox); have GW206 := gs_ hg; have GE206 := gs_ hg; replace HB := hbs_ hb; clear hb hbox hg; have hcz87 := blk_cell BK206.out; have hfz87 := blk_frozen BK206.out) | ((with_reducible refine gate_callee (f := 75) rfl ?_); refine goesC_ (some 8) Try.func75 #[.int .i64 (l0_0.length : Int), .int .i64 1, .int .i64 40] ?_; (with_reducible refine (spec_l01In.calls (l0_0.length : Int) 1 40 false _ A2.out).mono ?_); rintro e w' ⟨rfl, ⟨nd, rfl⟩⟩; refine ⟨_, rfl, ?_⟩))
  go_ret
  exact ⟨eq_, bl_⟩
end Go.Proofs.Ytcgnegnljffkmaa.PA
