import Derived.Test.YtcgnegnljffkmaaKFnExactPolicyRolesPAx0
import Derived.Test.YtcgnegnljffkmaaKFnExactPolicyRolesPAx3
import Derived.Test.YtcgnegnljffkmaaKFnExactPolicyRolesPAx4
-- A text of this claim: written by the session's own program out of the translation (wip/tools). Lean checks it.
namespace Go.Proofs.Ytcgnegnljffkmaa.PA
open Go.RowKit Go.Proofs.YtcgnegnljffkmaaW.PrintWords Go.Proofs.YtcgnegnljffkmaaW.PrintLast Go.Proofs.YtcgnegnljffkmaaW.PrintMore
attribute [local go_sem] max2_int min2_int max_two min_two max_three min_three max_four min_four   -- for this text's walks alone
set_option linter.unusedVariables false
set_option linter.unusedSimpArgs false
mutual
def spec_PolicyOk.l0 : Nat → Int → List (S105) → Option (Bool)
 | 0, _, _ => none
 | k + 1, x3, x207000 => if x3 < (x207000.length : Int) then (if 0 ≤ x3 then (if ((rd_T105 x207000 x3).f0) = 1 then ((spec_RoleOk.f ((rd_T105 x207000 x3).f1.f0) ((rd_T105 x207000 x3).f1.f1)).bind fun t210 => (if t210 = true then (if ((rd_T105 x207000 x3).f2) = 0 then (if ((rd_T105 x207000 x3).f3) = 0 then (spec_PolicyOk.l0 k (wrap64 (x3 + 1)) x207000) else (some false)) else (some false)) else (some false))) else (if ((rd_T105 x207000 x3).f0) = 2 then (spec_PolicyOk.j1 k x3 ((rd_T105 x207000 x3).f0) (((rd_T105 x207000 x3).f0) == 2) x207000 ((rd_T105 x207000 x3).f0) ((rd_T105 x207000 x3).f1.f0) ((rd_T105 x207000 x3).f1.f1) ((rd_T105 x207000 x3).f2) ((rd_T105 x207000 x3).f3)) else (spec_PolicyOk.j1 k x3 ((rd_T105 x207000 x3).f0) (((rd_T105 x207000 x3).f0) == 3) x207000 ((rd_T105 x207000 x3).f0) ((rd_T105 x207000 x3).f1.f0) ((rd_T105 x207000 x3).f1.f1) ((rd_T105 x207000 x3).f2) ((rd_T105 x207000 x3).f3)))) else (none)) else (some true)
def spec_PolicyOk.j1 : Nat → Int → Int → Bool → List (S105) → Int → Int → Int → Int → Int → Option (Bool)
 | 0, _, _, _, _, _, _, _, _, _ => none
 | k + 1, x3, x23, x40, x207000, x210000, x210001, x210002, x210003, x210004 => if x40 = true then ((spec_l21None.f x210001 x210002).bind fun t211 => (if t211 = true then ((spec_l01In.f x210003 0 (wrap64 (x3 - 1))).bind fun t212 => (if t212 = true then ((spec_l01In.f x210004 0 (wrap64 (x3 - 1))).bind fun t213 => (if t213 = true then (spec_PolicyOk.l0 k (wrap64 (x3 + 1)) x207000) else (some false))) else (some false))) else (some false))) else (if x23 = 4 then ((spec_l21None.f x210001 x210002).bind fun t214 => (if t214 = true then ((spec_l01In.f x210003 0 (wrap64 (x3 - 1))).bind fun t215 => (if t215 = true then (if x210004 = 0 then (spec_PolicyOk.l0 k (wrap64 (x3 + 1)) x207000) else (some false)) else (some false))) else (some false))) else (some false))
end
def spec_PolicyOk.f (k : Nat) (l0_0 : List (S105)) : Option (Bool) := (spec_l01In.f (l0_0.length : Int) 1 40).bind fun t207 => (if t207 = true then (spec_PolicyOk.l0 k 0 l0_0) else (some false))
set_option maxHeartbeats 8000000 in
set_option maxRecDepth 100000 in
theorem spec_PolicyOk.calls (k : Nat) (A0_0 : Option Addr) (c0_0 : Nat) (l0_0 : List (S105)) (r : Bool) (w : World) (hr0_0 : Kd.C k105 w A0_0 l0_0.length l0_0) (hc0_0 : l0_0.length ≤ c0_0) (h : spec_PolicyOk.f k l0_0 = some r) :
  Calls Try.prog 19 #[.agg #[.slice A0_0 l0_0.length c0_0]] w fun e w' => e = .returned (.bool r) ∧ Below w.heap.size w w' := by
 have hu39 := Try.underlying39
 have hu105 := Try.underlying105
 have hu27 := Try.underlying27
 have HR0_0 := Aside0.mk hr0_0
 have HC0_0 := Aside0.mk hc0_0
 clear hr0_0 hc0_0
 have HB := Aside0.mk (Below.refl w.heap.size w)
 have H : ((spec_l01In.f (l0_0.length : Int) 1 40).bind fun t207 => (if t207 = true then (spec_PolicyOk.l0 k 0 l0_0) else (some false))) = some r := h
 clear h
 obtain ⟨t207, A2, H⟩ := bindE_ H
 by_cases c3 : t207 = true
 ·subst c3
  replace H := ite_t_ H
  have H' := Aside0.mk H
  clear H
  go_enter Try.func19, Try.ntmps19
  go_wp2_with (first | ((with_reducible refine gate_dst (N := 1) rfl ?_); refine box_event ?hg (N := 1) ?hd (cs := #[.slice A0_0 l0_0.length c0_0]) (t := 39) ?hr ?_; (case hd => rfl); (case hg => rfl); (case hr => first | (go_simp; done) | (go_simp; rfl)); intro gb206 hg w4 hbox hb; have BK206 := Aside0.mk (hbox); have GW206 := gs_ hg; have GE206 := gs_ hg; replace HB := hbs_ hb; clear hb hbox hg; have hcz5 := blk_cell BK206.out; have hfz5 := blk_frozen BK206.out) | ((with_reducible refine gate_callee (f := 75) rfl ?_); refine goesC_ (some 8) Try.func75 #[.int .i64 (l0_0.length : Int), .int .i64 1, .int .i64 40] ?_; (with_reducible refine (spec_l01In.calls (l0_0.length : Int) 1 40 true _ A2.out).mono ?_); rintro e w' ⟨rfl, ⟨nd, rfl⟩⟩; refine ⟨_, rfl, ?_⟩))
  go_loopg [3] k (fun kq v3 w' => ∃ (x3_1 : Int), v3 = .int .i64 x3_1 ∧ Aside0 (spec_PolicyOk.l0 kq x3_1 l0_0 = some r) ∧ Aside0 (kq ≤ k) ∧ Aside0 (w'.heap[gb206]? = some (.cells #[(.slice A0_0 l0_0.length c0_0)] 39 (0, 0))) ∧ Aside0 (Below w.heap.size w w'))
  case atStart => exact ⟨(0), (by first | rfl | (simp; done) | (simp [*]; done)), H', ⟨Nat.le_refl _⟩, ⟨bk_ BK206⟩, ⟨bl_⟩⟩
  case round =>
   clear H'
   try clear c1
   try clear p2
   try clear c3
   try clear hcz5
   try clear hfz5
   obtain ⟨x3_1, rfl, HA, HK1, BK206, HB⟩ := hrel
   cases gk with
   | zero => exact absurd HA.out (by simp [spec_PolicyOk.l0])
   | succ k1 =>
    have H := HA.out
    clear HA
    simp only [spec_PolicyOk.l0] at H
    by_cases c6 : x3_1 < (l0_0.length : Int)
    ·rw [if_pos c6] at H
     have c6b0 : decide (x3_1 < (l0_0.length : Int)) = true := decide_eq_true c6
     clear c6
     by_cases c7 : 0 ≤ x3_1
     ·rw [if_pos c7] at H
      have c7b0 : decide (0 ≤ x3_1) = true := decide_eq_true c7
      clear c7
      by_cases c8 : ((rd_T105 l0_0 x3_1).f0) = 1
      ·rw [if_pos c8] at H
       have c8b0 : (((rd_T105 l0_0 x3_1).f0) == 1) = true := beq_iff_eq.mpr c8
       have c8b1 : (((rd_T105 l0_0 x3_1).f0) != 1) = false := bne_eq_false_iff_eq.mpr c8
       clear c8
       obtain ⟨t210, A9, H⟩ := bindE_ H
       by_cases c10 : t210 = true
       ·subst c10
        replace H := ite_t_ H
        by_cases c11 : ((rd_T105 l0_0 x3_1).f2) = 0
        ·rw [if_pos c11] at H
         have c11b0 : (((rd_T105 l0_0 x3_1).f2) == 0) = true := beq_iff_eq.mpr c11
         have c11b1 : (((rd_T105 l0_0 x3_1).f2) != 0) = false := bne_eq_false_iff_eq.mpr c11
         clear c11
         by_cases c12 : ((rd_T105 l0_0 x3_1).f3) = 0
         ·rw [if_pos c12] at H
          have c12b0 : (((rd_T105 l0_0 x3_1).f3) == 0) = true := beq_iff_eq.mpr c12
          have c12b1 : (((rd_T105 l0_0 x3_1).f3) != 0) = false := bne_eq_false_iff_eq.mpr c12
          clear c12
          have H' := Aside0.mk H
          clear H
          have hcz13 := blk_cell BK206.out
          have hfz13 := blk_frozen BK206.out
          have p208 : 0 ≤ (x3_1 : Int) := of_decide_eq_true (by first | (with_reducible assumption) | assumption)
          have q208 : x3_1 < (l0_0.length : Int) := of_decide_eq_true (by first | (with_reducible assumption) | assumption)
          obtain ⟨ad208, e208, hx208_0, hx208_1, hx208_2, hx208_3, hx208_4⟩ := at_T105 (Kd.C_below HR0_0.out HB.out) x3_1 p208 q208
          cases e208
          replace p208 := eq_true p208
          replace q208 := eq_true q208
          go_wp2_with (first | ((with_reducible refine gate_dst (N := 4) rfl ?_); refine box_event ?hg (N := 4) ?hd (cs := #[.int .i64 0, .int .i64 0, .int .i64 0, .int .i64 0, .int .i64 0]) (t := 105) ?hr ?_; (case hd => rfl); (case hg => rfl); (case hr => first | (go_simp; done) | (go_simp; rfl)); intro gb209 hg w14 hbox hb; have BK209 := Aside0.mk (hbox); have GW209 := gs_ hg; have GE209 := gs_ hg; replace HB := hbs_ hb; have NB206_209 := Aside0.mk ((by rw [hg]; exact Nat.ne_of_lt (blk_lt (g := gb206) (o := .cells #[.slice (some ad208) l0_0.length c0_0] 39 (0, 0)) (bk_ BK206)) : gb206 ≠ gb209)); have NB209_206 := Aside0.mk ((by rw [hg]; exact Nat.ne_of_gt (blk_lt (g := gb206) (o := .cells #[.slice (some ad208) l0_0.length c0_0] 39 (0, 0)) (bk_ BK206)) : gb209 ≠ gb206)); replace BK206 := bkb_ BK206 hb; clear hb hbox hg; have hnb15 := NB209_206.out; have hnc15 := NB206_209.out; have hcz16 := blk_cell BK209.out; have hfz16 := blk_frozen BK209.out) | ((with_reducible refine gate_callee (f := 76) rfl ?_); refine goesC_ (some 28) Try.func76 #[.agg #[.int .i64 ((rd_T105 l0_0 x3_1).f1.f0), .int .i64 ((rd_T105 l0_0 x3_1).f1.f1)]] ?_; (with_reducible refine (spec_RoleOk.calls ((rd_T105 l0_0 x3_1).f1.f0) ((rd_T105 l0_0 x3_1).f1.f1) true _ A9.out).mono ?_); rintro e w17 ⟨rfl, hb⟩; refine ⟨_, rfl, ?_⟩; replace BK206 := Aside0.mk (blk_below (g := gb206) (o := .cells #[.slice (some ad208) l0_0.length c0_0] 39 (0, 0)) (bk_ BK206) hb); replace BK209 := Aside0.mk (blk_below (g := gb209) (o := .cells #[.int .i64 ((rd_T105 l0_0 x3_1).f0), .int .i64 ((rd_T105 l0_0 x3_1).f1.f0), .int .i64 ((rd_T105 l0_0 x3_1).f1.f1), .int .i64 ((rd_T105 l0_0 x3_1).f2), .int .i64 ((rd_T105 l0_0 x3_1).f3)] 105 (0, 0)) (bk_ BK209) hb); replace HB := hbs_ hb; clear hb; have hcz18 := blk_cell BK209.out; have hfz18 := blk_frozen BK209.out))
          go_roundg k1
          case measure => have := HK1.out; omega
          case rel => exact ⟨(wrap64 (x3_1 + 1)), (by first | rfl | (simp; done) | (simp [*]; done)), H', ⟨by have := HK1.out; omega⟩, ⟨bk_ BK206⟩, ⟨bl_⟩⟩
         ·rw [if_neg c12] at H
          have c12b0 : (((rd_T105 l0_0 x3_1).f3) == 0) = false := beq_eq_false_iff_ne.mpr c12
          have c12b1 : (((rd_T105 l0_0 x3_1).f3) != 0) = true := bne_iff_ne.mpr c12
          obtain rfl := Option.some.inj H
          have hcz19 := blk_cell BK206.out
          have hfz19 := blk_frozen BK206.out
          have p208 : 0 ≤ (x3_1 : Int) := of_decide_eq_true (by first | (with_reducible assumption) | assumption)
          have q208 : x3_1 < (l0_0.length : Int) := of_decide_eq_true (by first | (with_reducible assumption) | assumption)
          obtain ⟨ad208, e208, hx208_0, hx208_1, hx208_2, hx208_3, hx208_4⟩ := at_T105 (Kd.C_below HR0_0.out HB.out) x3_1 p208 q208
          cases e208
          replace p208 := eq_true p208
          replace q208 := eq_true q208
          go_wp2_with (first | ((with_reducible refine gate_dst (N := 4) rfl ?_); refine box_event ?hg (N := 4) ?hd (cs := #[.int .i64 0, .int .i64 0, .int .i64 0, .int .i64 0, .int .i64 0]) (t := 105) ?hr ?_; (case hd => rfl); (case hg => rfl); (case hr => first | (go_simp; done) | (go_simp; rfl)); intro gb209 hg w20 hbox hb; have BK209 := Aside0.mk (hbox); have GW209 := gs_ hg; have GE209 := gs_ hg; replace HB := hbs_ hb; have NB206_209 := Aside0.mk ((by rw [hg]; exact Nat.ne_of_lt (blk_lt (g := gb206) (o := .cells #[.slice (some ad208) l0_0.length c0_0] 39 (0, 0)) (bk_ BK206)) : gb206 ≠ gb209)); have NB209_206 := Aside0.mk ((by rw [hg]; exact Nat.ne_of_gt (blk_lt (g := gb206) (o := .cells #[.slice (some ad208) l0_0.length c0_0] 39 (0, 0)) (bk_ BK206)) : gb209 ≠ gb206)); replace BK206 := bkb_ BK206 hb; clear hb hbox hg; have hnb21 := NB209_206.out; have hnc21 := NB206_209.out; have hcz22 := blk_cell BK209.out; have hfz22 := blk_frozen BK209.out) | ((with_reducible refine gate_callee (f := 76) rfl ?_); refine goesC_ (some 28) Try.func76 #[.agg #[.int .i64 ((rd_T105 l0_0 x3_1).f1.f0), .int .i64 ((rd_T105 l0_0 x3_1).f1.f1)]] ?_; (with_reducible refine (spec_RoleOk.calls ((rd_T105 l0_0 x3_1).f1.f0) ((rd_T105 l0_0 x3_1).f1.f1) true _ A9.out).mono ?_); rintro e w23 ⟨rfl, hb⟩; refine ⟨_, rfl, ?_⟩; replace BK206 := Aside0.mk (blk_below (g := gb206) (o := .cells #[.slice (some ad208) l0_0.length c0_0] 39 (0, 0)) (bk_ BK206) hb); replace BK209 := Aside0.mk (blk_below (g := gb209) (o := .cells #[.int .i64 ((rd_T105 l0_0 x3_1).f0), .int .i64 ((rd_T105 l0_0 x3_1).f1.f0), .int .i64 ((rd_T105 l0_0 x3_1).f1.f1), .int .i64 ((rd_T105 l0_0 x3_1).f2), .int .i64 ((rd_T105 l0_0 x3_1).f3)] 105 (0, 0)) (bk_ BK209) hb); replace HB := hbs_ hb; clear hb; have hcz24 := blk_cell BK209.out; have hfz24 := blk_frozen BK209.out))
          go_ret
          exact ⟨eq_, bl_⟩
        ·rw [if_neg c11] at H
         have c11b0 : (((rd_T105 l0_0 x3_1).f2) == 0) = false := beq_eq_false_iff_ne.mpr c11
         have c11b1 : (((rd_T105 l0_0 x3_1).f2) != 0) = true := bne_iff_ne.mpr c11
         obtain rfl := Option.some.inj H
         have hcz25 := blk_cell BK206.out
         have hfz25 := blk_frozen BK206.out
         have p208 : 0 ≤ (x3_1 : Int) := of_decide_eq_true (by first | (with_reducible assumption) | assumption)
         have q208 : x3_1 < (l0_0.length : Int) := of_decide_eq_true (by first | (with_reducible assumption) | assumption)
         obtain ⟨ad208, e208, hx208_0, hx208_1, hx208_2, hx208_3, hx208_4⟩ := at_T105 (Kd.C_below HR0_0.out HB.out) x3_1 p208 q208
         cases e208
         replace p208 := eq_true p208
         replace q208 := eq_true q208
         go_wp2_with (first | ((with_reducible refine gate_dst (N := 4) rfl ?_); refine box_event ?hg (N := 4) ?hd (cs := #[.int .i64 0, .int .i64 0, .int .i64 0, .int .i64 0, .int .i64 0]) (t := 105) ?hr ?_; (case hd => rfl); (case hg => rfl); (case hr => first | (go_simp; done) | (go_simp; rfl)); intro gb209 hg w26 hbox hb; have BK209 := Aside0.mk (hbox); have GW209 := gs_ hg; have GE209 := gs_ hg; replace HB := hbs_ hb; have NB206_209 := Aside0.mk ((by rw [hg]; exact Nat.ne_of_lt (blk_lt (g := gb206) (o := .cells #[.slice (some ad208) l0_0.length c0_0] 39 (0, 0)) (bk_ BK206)) : gb206 ≠ gb209)); have NB209_206 := Aside0.mk ((by rw [hg]; exact Nat.ne_of_gt (blk_lt (g := gb206) (o := .cells #[.slice (some ad208) l0_0.length c0_0] 39 (0, 0)) (bk_ BK206)) : gb209 ≠ gb206)); replace BK206 := bkb_ BK206 hb; clear hb hbox hg; have hnb27 := NB209_206.out; have hnc27 := NB206_209.out; have hcz28 := blk_cell BK209.out; have hfz28 := blk_frozen BK209.out) | ((with_reducible refine gate_callee (f := 76) rfl ?_); refine goesC_ (some 28) Try.func76 #[.agg #[.int .i64 ((rd_T105 l0_0 x3_1).f1.f0), .int .i64 ((rd_T105 l0_0 x3_1).f1.f1)]] ?_; (with_reducible refine (spec_RoleOk.calls ((rd_T105 l0_0 x3_1).f1.f0) ((rd_T105 l0_0 x3_1).f1.f1) true _ A9.out).mono ?_); rintro e w29 ⟨rfl, hb⟩; refine ⟨_, rfl, ?_⟩; replace BK206 := Aside0.mk (blk_below (g := gb206) (o := .cells #[.slice (some ad208) l0_0.length c0_0] 39 (0, 0)) (bk_ BK206) hb); replace BK209 := Aside0.mk (blk_below (g := gb209) (o := .cells #[.int .i64 ((rd_T105 l0_0 x3_1).f0), .int .i64 ((rd_T105 l0_0 x3_1).f1.f0), .int .i64 ((rd_T105 l0_0 x3_1).f1.f1), .int .i64 ((rd_T105 l0_0 x3_1).f2), .int .i64 ((rd_T105 l0_0 x3_1).f3)] 105 (0, 0)) (bk_ BK209) hb); replace HB := hbs_ hb; clear hb; have hcz30 := blk_cell BK209.out; have hfz30 := blk_frozen BK209.out))
         go_ret
         exact ⟨eq_, bl_⟩
       ·replace c10 := Bool.eq_false_iff.mpr c10
        subst c10
        replace H := ite_f_ H
        obtain rfl := Option.some.inj H
        have hcz31 := blk_cell BK206.out
        have hfz31 := blk_frozen BK206.out
        have p208 : 0 ≤ (x3_1 : Int) := of_decide_eq_true (by first | (with_reducible assumption) | assumption)
        have q208 : x3_1 < (l0_0.length : Int) := of_decide_eq_true (by first | (with_reducible assumption) | assumption)
        obtain ⟨ad208, e208, hx208_0, hx208_1, hx208_2, hx208_3, hx208_4⟩ := at_T105 (Kd.C_below HR0_0.out HB.out) x3_1 p208 q208
        cases e208
        replace p208 := eq_true p208
        replace q208 := eq_true q208
        go_wp2_with (first | ((with_reducible refine gate_dst (N := 4) rfl ?_); refine box_event ?hg (N := 4) ?hd (cs := #[.int .i64 0, .int .i64 0, .int .i64 0, .int .i64 0, .int .i64 0]) (t := 105) ?hr ?_; (case hd => rfl); (case hg => rfl); (case hr => first | (go_simp; done) | (go_simp; rfl)); intro gb209 hg w32 hbox hb; have BK209 := Aside0.mk (hbox); have GW209 := gs_ hg; have GE209 := gs_ hg; replace HB := hbs_ hb; have NB206_209 := Aside0.mk ((by rw [hg]; exact Nat.ne_of_lt (blk_lt (g := gb206) (o := .cells #[.slice (some ad208) l0_0.length c0_0] 39 (0, 0)) (bk_ BK206)) : gb206 ≠ gb209)); have NB209_206 := Aside0.mk ((by rw [hg]; exact Nat.ne_of_gt (blk_lt (g := gb206) (o := .cells #[.slice (some ad208) l0_0.length c0_0] 39 (0, 0)) (bk_ BK206)) : gb209 ≠ gb206)); replace BK206 := bkb_ BK206 hb; clear hb hbox hg; have hnb33 := NB209_206.out; have hnc33 := NB206_209.out; have hcz34 := blk_cell BK209.out; have hfz34 := blk_frozen BK209.out) | ((with_reducible refine gate_callee (f := 76) rfl ?_); refine goesC_ (some 28) Try.func76 #[.agg #[.int .i64 ((rd_T105 l0_0 x3_1).f1.f0), .int .i64 ((rd_T105 l0_0 x3_1).f1.f1)]] ?_; (with_reducible refine (spec_RoleOk.calls ((rd_T105 l0_0 x3_1).f1.f0) ((rd_T105 l0_0 x3_1).f1.f1) false _ A9.out).mono ?_); rintro e w35 ⟨rfl, hb⟩; refine ⟨_, rfl, ?_⟩; replace BK206 := Aside0.mk (blk_below (g := gb206) (o := .cells #[.slice (some ad208) l0_0.length c0_0] 39 (0, 0)) (bk_ BK206) hb); replace BK209 := Aside0.mk (blk_below (g := gb209) (o := .cells #[.int .i64 ((rd_T105 l0_0 x3_1).f0), .int .i64 ((rd_T105 l0_0 x3_1).f1.f0), .int .i64 ((rd_T105 l0_0 x3_1).f1.f1), .int .i64 ((rd_T105 l0_0 x3_1).f2), .int .i64 ((rd_T105 l0_0 x3_1).f3)] 105 (0, 0)) (bk_ BK209) hb); replace HB := hbs_ hb; clear hb))
        go_ret
        exact ⟨eq_, bl_⟩
      ·rw [if_neg c8] at H
       have c8b0 : (((rd_T105 l0_0 x3_1).f0) == 1) = false := beq_eq_false_iff_ne.mpr c8
       have c8b1 : (((rd_T105 l0_0 x3_1).f0) != 1) = true := bne_iff_ne.mpr c8
       have HC36 := Aside0.mk H
       clear H
       have hcz37 := blk_cell BK206.out
       have hfz37 := blk_frozen BK206.out
       have p208 : 0 ≤ (x3_1 : Int) := of_decide_eq_true (by first | (with_reducible assumption) | assumption)
       have q208 : x3_1 < (l0_0.length : Int) := of_decide_eq_true (by first | (with_reducible assumption) | assumption)
       obtain ⟨ad208, e208, hx208_0, hx208_1, hx208_2, hx208_3, hx208_4⟩ := at_T105 (Kd.C_below HR0_0.out HB.out) x3_1 p208 q208
       cases e208
       replace p208 := eq_true p208
       replace q208 := eq_true q208
       go_upto_if 40 with (first | ((with_reducible refine gate_dst (N := 4) rfl ?_); refine box_event ?hg (N := 4) ?hd (cs := #[.int .i64 0, .int .i64 0, .int .i64 0, .int .i64 0, .int .i64 0]) (t := 105) ?hr ?_; (case hd => rfl); (case hg => rfl); (case hr => first | (go_simp; done) | (go_simp; rfl)); intro gb209 hg w38 hbox hb; have BK209 := Aside0.mk (hbox); have GW209 := gs_ hg; have GE209 := gs_ hg; replace HB := hbs_ hb; have NB206_209 := Aside0.mk ((by rw [hg]; exact Nat.ne_of_lt (blk_lt (g := gb206) (o := .cells #[.slice (some ad208) l0_0.length c0_0] 39 (0, 0)) (bk_ BK206)) : gb206 ≠ gb209)); have NB209_206 := Aside0.mk ((by rw [hg]; exact Nat.ne_of_gt (blk_lt (g := gb206) (o := .cells #[.slice (some ad208) l0_0.length c0_0] 39 (0, 0)) (bk_ BK206)) : gb209 ≠ gb206)); replace BK206 := bkb_ BK206 hb; clear hb hbox hg; have hnb39 := NB209_206.out; have hnc39 := NB206_209.out; have hcz40 := blk_cell BK209.out; have hfz40 := blk_frozen BK209.out))
       (try simp only [Act.put, List.setIfInBounds_toArray, List.set_cons_zero, List.set_cons_succ])
       go_cut [40] (fun v40 wc => ∃ (kq : Nat) (x40_35 : Bool), v40 = .bool x40_35 ∧ Aside0 (spec_PolicyOk.j1 kq x3_1 ((rd_T105 l0_0 x3_1).f0) x40_35 l0_0 ((rd_T105 l0_0 x3_1).f0) ((rd_T105 l0_0 x3_1).f1.f0) ((rd_T105 l0_0 x3_1).f1.f1) ((rd_T105 l0_0 x3_1).f2) ((rd_T105 l0_0 x3_1).f3) = some r) ∧ Aside0 (kq ≤ k1) ∧ Aside0 (wc.heap[gb206]? = some (.cells #[(.slice (some ad208) l0_0.length c0_0)] 39 (0, 0))) ∧ Aside0 (wc.heap[gb209]? = some (.cells #[.int .i64 ((rd_T105 l0_0 x3_1).f0), .int .i64 ((rd_T105 l0_0 x3_1).f1.f0), .int .i64 ((rd_T105 l0_0 x3_1).f1.f1), .int .i64 ((rd_T105 l0_0 x3_1).f2), .int .i64 ((rd_T105 l0_0 x3_1).f3)] 105 (0, 0))) ∧ Aside0 (Below w.heap.size w wc))
       case first =>
        have H := HC36.out
        clear HC36
        by_cases c41 : ((rd_T105 l0_0 x3_1).f0) = 2
        ·rw [if_pos c41] at H
         have c41b0 : (((rd_T105 l0_0 x3_1).f0) == 2) = true := beq_iff_eq.mpr c41
         have c41b1 : (((rd_T105 l0_0 x3_1).f0) != 2) = false := bne_eq_false_iff_eq.mpr c41
         clear c41
         (first | rw [c41b0] | (simp only [i64_w, i32_w]; rw [c41b0]) | skip)
         have H' := Aside0.mk H
         clear H
         go_wp2
         go_meet
         case rel => exact ⟨_, ((((rd_T105 l0_0 x3_1).f0) == 2)), (by first | rfl | (simp; done) | (simp [*]; done)), H', ⟨by have := HK1.out; first | omega | exact Nat.le_refl _⟩, ⟨bk_ BK206⟩, ⟨bk_ BK209⟩, ⟨bl_⟩⟩
        ·rw [if_neg c41] at H
         have c41b0 : (((rd_T105 l0_0 x3_1).f0) == 2) = false := beq_eq_false_iff_ne.mpr c41
         have c41b1 : (((rd_T105 l0_0 x3_1).f0) != 2) = true := bne_iff_ne.mpr c41
         (first | rw [c41b0] | (simp only [i64_w, i32_w]; rw [c41b0]) | skip)
         have H' := Aside0.mk H
         clear H
         go_wp2
         go_meet
         case rel => exact ⟨_, ((((rd_T105 l0_0 x3_1).f0) == 3)), (by first | rfl | (simp; done) | (simp [*]; done)), H', ⟨by have := HK1.out; first | omega | exact Nat.le_refl _⟩, ⟨bk_ BK206⟩, ⟨bk_ BK209⟩, ⟨bl_⟩⟩
       case rest =>
        clear HC36
        try clear c1
        try clear c2
        try clear p2
        try clear q2
        try clear hx2
        try clear c3
        try clear c4
        try clear c6
        try clear c6b0
        try clear p6
        try clear c7
        try clear c7b0
        try clear c8
        try clear c8b0
        try clear c8b1
        try clear c10
        try clear c11
        try clear c11b0
        try clear c11b1
        try clear c12
        try clear c12b0
        try clear c12b1
        try clear c15
        try clear c19
        try clear p20
        try clear q20
        try clear hx20
        try clear c21
        try clear c27
        try clear c33
        try clear c39
        try clear c41
        try clear c41b0
        try clear c41b1
        try clear hcz13
        try clear hcz16
        try clear hcz18
        try clear hcz19
        try clear hcz22
        try clear hcz24
        try clear hcz25
        try clear hcz28
        try clear hcz30
        try clear hcz31
        try clear hcz34
        try clear hcz37
        try clear hcz40
        try clear hcz5
        try clear hfz13
        try clear hfz16
        try clear hfz18
        try clear hfz19
        try clear hfz22
        try clear hfz24
        try clear hfz25
        try clear hfz28
        try clear hfz30
        try clear hfz31
        try clear hfz34
        try clear hfz37
        try clear hfz40
        try clear hfz5
        try clear hx208_0
        try clear hx208_1
        try clear hx208_2
        try clear hx208_3
        try clear hx208_4
        try clear p2
        try clear p208
        try clear q208
        obtain ⟨kq, x40_35, rfl, HA, HJ35, BK206, BK209, HB⟩ := hcut
        cases kq with
        | zero => exact absurd HA.out (by simp [spec_PolicyOk.j1])
        | succ kj35 =>
         have H := HA.out
         clear HA
         simp only [spec_PolicyOk.j1] at H
         by_cases c42 : x40_35 = true
         ·subst c42
          replace H := ite_t_ H
          obtain ⟨t211, A43, H⟩ := bindE_ H
          by_cases c44 : t211 = true
          ·subst c44
           replace H := ite_t_ H
           obtain ⟨t212, A45, H⟩ := bindE_ H
           by_cases c46 : t212 = true
           ·subst c46
            replace H := ite_t_ H
            obtain ⟨t213, A47, H⟩ := bindE_ H
            by_cases c48 : t213 = true
            ·subst c48
             replace H := ite_t_ H
             have H' := Aside0.mk H
             clear H
             have hnb49 := NB209_206.out
             have hnc49 := NB206_209.out
             have hcz50 := blk_cell BK209.out
             have hfz50 := blk_frozen BK209.out
             go_wp2_with (first | ((with_reducible refine gate_callee (f := 77) rfl ?_); refine goesC_ (some 45) Try.func77 #[.agg #[.int .i64 ((rd_T105 l0_0 x3_1).f1.f0), .int .i64 ((rd_T105 l0_0 x3_1).f1.f1)]] ?_; (with_reducible refine (spec_l21None.calls ((rd_T105 l0_0 x3_1).f1.f0) ((rd_T105 l0_0 x3_1).f1.f1) true _ A43.out).mono ?_); rintro e w51 ⟨rfl, hb⟩; refine ⟨_, rfl, ?_⟩; replace BK206 := bkb_ BK206 hb; replace BK209 := bkb_ BK209 hb; replace HB := hbs_ hb; clear hb; have hcz52 := blk_cell BK209.out; have hfz52 := blk_frozen BK209.out) | (go_at_call 75; (with_reducible refine (spec_l01In.calls ((rd_T105 l0_0 x3_1).f2) 0 (wrap64 (x3_1 - 1)) true _ A45.out).mono ?_); rintro e w' ⟨rfl, ⟨nd, rfl⟩⟩) | (go_at_call 75; (with_reducible refine (spec_l01In.calls ((rd_T105 l0_0 x3_1).f3) 0 (wrap64 (x3_1 - 1)) true _ A47.out).mono ?_); rintro e w' ⟨rfl, ⟨nd, rfl⟩⟩))
             go_roundg kj35
             case measure => have := HK1.out; have := HJ35.out; omega
             case rel => exact ⟨(wrap64 (x3_1 + 1)), (by first | rfl | (simp; done) | (simp [*]; done)), H', ⟨by have := HK1.out; have := HJ35.out; omega⟩, ⟨bk_ BK206⟩, ⟨bl_⟩⟩
            ·replace c48 := Bool.eq_false_iff.mpr c48
             subst c48
             replace H := ite_f_ H
             obtain rfl := Option.some.inj H
             have hnb53 := NB209_206.out
             have hnc53 := NB206_209.out
             have hcz54 := blk_cell BK209.out
             have hfz54 := blk_frozen BK209.out
             go_wp2_with (first | ((with_reducible refine gate_callee (f := 77) rfl ?_); refine goesC_ (some 45) Try.func77 #[.agg #[.int .i64 ((rd_T105 l0_0 x3_1).f1.f0), .int .i64 ((rd_T105 l0_0 x3_1).f1.f1)]] ?_; (with_reducible refine (spec_l21None.calls ((rd_T105 l0_0 x3_1).f1.f0) ((rd_T105 l0_0 x3_1).f1.f1) true _ A43.out).mono ?_); rintro e w55 ⟨rfl, hb⟩; refine ⟨_, rfl, ?_⟩; replace BK206 := bkb_ BK206 hb; replace BK209 := bkb_ BK209 hb; replace HB := hbs_ hb; clear hb; have hcz56 := blk_cell BK209.out; have hfz56 := blk_frozen BK209.out) | (go_at_call 75; (with_reducible refine (spec_l01In.calls ((rd_T105 l0_0 x3_1).f2) 0 (wrap64 (x3_1 - 1)) true _ A45.out).mono ?_); rintro e w' ⟨rfl, ⟨nd, rfl⟩⟩) | (go_at_call 75; (with_reducible refine (spec_l01In.calls ((rd_T105 l0_0 x3_1).f3) 0 (wrap64 (x3_1 - 1)) false _ A47.out).mono ?_); rintro e w' ⟨rfl, ⟨nd, rfl⟩⟩))
             go_ret
             exact ⟨eq_, bl_⟩
           ·replace c46 := Bool.eq_false_iff.mpr c46
            subst c46
            replace H := ite_f_ H
            obtain rfl := Option.some.inj H
            have hnb57 := NB209_206.out
            have hnc57 := NB206_209.out
            have hcz58 := blk_cell BK209.out
            have hfz58 := blk_frozen BK209.out
            go_wp2_with (first | ((with_reducible refine gate_callee (f := 77) rfl ?_); refine goesC_ (some 45) Try.func77 #[.agg #[.int .i64 ((rd_T105 l0_0 x3_1).f1.f0), .int .i64 ((rd_T105 l0_0 x3_1).f1.f1)]] ?_; (with_reducible refine (spec_l21None.calls ((rd_T105 l0_0 x3_1).f1.f0) ((rd_T105 l0_0 x3_1).f1.f1) true _ A43.out).mono ?_); rintro e w59 ⟨rfl, hb⟩; refine ⟨_, rfl, ?_⟩; replace BK206 := bkb_ BK206 hb; replace BK209 := bkb_ BK209 hb; replace HB := hbs_ hb; clear hb; have hcz60 := blk_cell BK209.out; have hfz60 := blk_frozen BK209.out) | (go_at_call 75; (with_reducible refine (spec_l01In.calls ((rd_T105 l0_0 x3_1).f2) 0 (wrap64 (x3_1 - 1)) false _ A45.out).mono ?_); rintro e w' ⟨rfl, ⟨nd, rfl⟩⟩))
            go_ret
            exact ⟨eq_, bl_⟩
          ·replace c44 := Bool.eq_false_iff.mpr c44
           subst c44
           replace H := ite_f_ H
           obtain rfl := Option.some.inj H
           have hnb61 := NB209_206.out
           have hnc61 := NB206_209.out
           have hcz62 := blk_cell BK209.out
           have hfz62 := blk_frozen BK209.out
           go_wp2_with (first | ((with_reducible refine gate_callee (f := 77) rfl ?_); refine goesC_ (some 45) Try.func77 #[.agg #[.int .i64 ((rd_T105 l0_0 x3_1).f1.f0), .int .i64 ((rd_T105 l0_0 x3_1).f1.f1)]] ?_; (with_reducible refine (spec_l21None.calls ((rd_T105 l0_0 x3_1).f1.f0) ((rd_T105 l0_0 x3_1).f1.f1) false _ A43.out).mono ?_); rintro e w63 ⟨rfl, hb⟩; refine ⟨_, rfl, ?_⟩; replace BK206 := bkb_ BK206 hb; replace BK209 := bkb_ BK209 hb; replace HB := hbs_ hb; clear hb))
           go_ret
           exact ⟨eq_, bl_⟩
         ·replace c42 := Bool.eq_false_iff.mpr c42
          subst c42
          replace H := ite_f_ H
          by_cases c64 : ((rd_T105 l0_0 x3_1).f0) = 4
          ·rw [if_pos c64] at H
           have c64b0 : (((rd_T105 l0_0 x3_1).f0) == 4) = true := beq_iff_eq.mpr c64
           have c64b1 : (((rd_T105 l0_0 x3_1).f0) != 4) = false := bne_eq_false_iff_eq.mpr c64
           clear c64
           obtain ⟨t214, A65, H⟩ := bindE_ H
           by_cases c66 : t214 = true
           ·subst c66
            replace H := ite_t_ H
            obtain ⟨t215, A67, H⟩ := bindE_ H
            by_cases c68 : t215 = true
            ·subst c68
             replace H := ite_t_ H
             by_cases c69 : ((rd_T105 l0_0 x3_1).f3) = 0
             ·rw [if_pos c69] at H
              have c69b0 : (((rd_T105 l0_0 x3_1).f3) == 0) = true := beq_iff_eq.mpr c69
              have c69b1 : (((rd_T105 l0_0 x3_1).f3) != 0) = false := bne_eq_false_iff_eq.mpr c69
              clear c69
              have H' := Aside0.mk H
              clear H
              have hnb70 := NB209_206.out
              have hnc70 := NB206_209.out
              have hcz71 := blk_cell BK209.out
              have hfz71 := blk_frozen BK209.out
              go_wp2_with (first | ((with_reducible refine gate_callee (f := 77) rfl ?_); refine goesC_ (some 67) Try.func77 #[.agg #[.int .i64 ((rd_T105 l0_0 x3_1).f1.f0), .int .i64 ((rd_T105 l0_0 x3_1).f1.f1)]] ?_; (with_reducible refine (spec_l21None.calls ((rd_T105 l0_0 x3_1).f1.f0) ((rd_T105 l0_0 x3_1).f1.f1) true _ A65.out).mono ?_); rintro e w72 ⟨rfl, hb⟩; refine ⟨_, rfl, ?_⟩; replace BK206 := bkb_ BK206 hb; replace BK209 := bkb_ BK209 hb; replace HB := hbs_ hb; clear hb; have hcz73 := blk_cell BK209.out; have hfz73 := blk_frozen BK209.out) | (go_at_call 75; (with_reducible refine (spec_l01In.calls ((rd_T105 l0_0 x3_1).f2) 0 (wrap64 (x3_1 - 1)) true _ A67.out).mono ?_); rintro e w' ⟨rfl, ⟨nd, rfl⟩⟩))
              go_roundg kj35
              case measure => have := HK1.out; have := HJ35.out; omega
              case rel => exact ⟨(wrap64 (x3_1 + 1)), (by first | rfl | (simp; done) | (simp [*]; done)), H', ⟨by have := HK1.out; have := HJ35.out; omega⟩, ⟨bk_ BK206⟩, ⟨bl_⟩⟩
             ·rw [if_neg c69] at H
              have c69b0 : (((rd_T105 l0_0 x3_1).f3) == 0) = false := beq_eq_false_iff_ne.mpr c69
              have c69b1 : (((rd_T105 l0_0 x3_1).f3) != 0) = true := bne_iff_ne.mpr c69
              obtain rfl := Option.some.inj H
              have hnb74 := NB209_206.out
              have hnc74 := NB206_209.out
              have hcz75 := blk_cell BK209.out
              have hfz75 := blk_frozen BK209.out
              go_wp2_with (first | ((with_reducible refine gate_callee (f := 77) rfl ?_); refine goesC_ (some 67) Try.func77 #[.agg #[.int .i64 ((rd_T105 l0_0 x3_1).f1.f0), .int .i64 ((rd_T105 l0_0 x3_1).f1.f1)]] ?_; (with_reducible refine (spec_l21None.calls ((rd_T105 l0_0 x3_1).f1.f0) ((rd_T105 l0_0 x3_1).f1.f1) true _ A65.out).mono ?_); rintro e w76 ⟨rfl, hb⟩; refine ⟨_, rfl, ?_⟩; replace BK206 := bkb_ BK206 hb; replace BK209 := bkb_ BK209 hb; replace HB := hbs_ hb; clear hb; have hcz77 := blk_cell BK209.out; have hfz77 := blk_frozen BK209.out) | (go_at_call 75; (with_reducible refine (spec_l01In.calls ((rd_T105 l0_0 x3_1).f2) 0 (wrap64 (x3_1 - 1)) true _ A67.out).mono ?_); rintro e w' ⟨rfl, ⟨nd, rfl⟩⟩))
              go_ret
              exact ⟨eq_, bl_⟩
            ·replace c68 := Bool.eq_false_iff.mpr c68
             subst c68
             replace H := ite_f_ H
             obtain rfl := Option.some.inj H
             have hnb78 := NB209_206.out
             have hnc78 := NB206_209.out
             have hcz79 := blk_cell BK209.out
             have hfz79 := blk_frozen BK209.out
             go_wp2_with (first | ((with_reducible refine gate_callee (f := 77) rfl ?_); refine goesC_ (some 67) Try.func77 #[.agg #[.int .i64 ((rd_T105 l0_0 x3_1).f1.f0), .int .i64 ((rd_T105 l0_0 x3_1).f1.f1)]] ?_; (with_reducible refine (spec_l21None.calls ((rd_T105 l0_0 x3_1).f1.f0) ((rd_T105 l0_0 x3_1).f1.f1) true _ A65.out).mono ?_); rintro e w80 ⟨rfl, hb⟩; refine ⟨_, rfl, ?_⟩; replace BK206 := bkb_ BK206 hb; replace BK209 := bkb_ BK209 hb; replace HB := hbs_ hb; clear hb; have hcz81 := blk_cell BK209.out; have hfz81 := blk_frozen BK209.out) | (go_at_call 75; (with_reducible refine (spec_l01In.calls ((rd_T105 l0_0 x3_1).f2) 0 (wrap64 (x3_1 - 1)) false _ A67.out).mono ?_); rintro e w' ⟨rfl, ⟨nd, rfl⟩⟩))
             go_ret
             exact ⟨eq_, bl_⟩
           ·replace c66 := Bool.eq_false_iff.mpr c66
            subst c66
            replace H := ite_f_ H
            obtain rfl := Option.some.inj H
            have hnb82 := NB209_206.out
            have hnc82 := NB206_209.out
            have hcz83 := blk_cell BK209.out
            have hfz83 := blk_frozen BK209.out
            go_wp2_with (first | ((with_reducible refine gate_callee (f := 77) rfl ?_); refine goesC_ (some 67) Try.func77 #[.agg #[.int .i64 ((rd_T105 l0_0 x3_1).f1.f0), .int .i64 ((rd_T105 l0_0 x3_1).f1.f1)]] ?_; (with_reducible refine (spec_l21None.calls ((rd_T105 l0_0 x3_1).f1.f0) ((rd_T105 l0_0 x3_1).f1.f1) false _ A65.out).mono ?_); rintro e w84 ⟨rfl, hb⟩; refine ⟨_, rfl, ?_⟩; replace BK206 := bkb_ BK206 hb; replace BK209 := bkb_ BK209 hb; replace HB := hbs_ hb; clear hb))
            go_ret
            exact ⟨eq_, bl_⟩
          ·rw [if_neg c64] at H
           have c64b0 : (((rd_T105 l0_0 x3_1).f0) == 4) = false := beq_eq_false_iff_ne.mpr c64
           have c64b1 : (((rd_T105 l0_0 x3_1).f0) != 4) = true := bne_iff_ne.mpr c64
           obtain rfl := Option.some.inj H
           go_wp2
           go_ret
           exact ⟨eq_, bl_⟩
     ·rw [if_neg c7] at H
      exact absurd H (by simp)
    ·rw [if_neg c6] at H
     have c6b0 : decide (x3_1 < (l0_0.length : Int)) = false := decide_eq_false c6
     clear c6
     obtain rfl := Option.some.inj H
     have hcz85 := blk_cell BK206.out
     have hfz85 := blk_frozen BK206.out
     go_wp2
     go_ret
     exact ⟨eq_, bl_⟩
 ·replace c3 := Bool.eq_false_iff.mpr c3
  subst c3
  replace H := ite_f_ H
  obtain rfl := Option.some.inj H
  go_enter Try.func19, Try.ntmps19
  go_wp2_with (first | ((with_reducible refine gate_dst (N := 1) rfl ?_); refine box_event ?hg (N := 1) ?hd (cs := #[.slice A0_0 l0_0.length c0_0]) (t := 39) ?hr ?_; (case hd => rfl); (case hg => rfl); (case hr => first | (go_simp; done) | (go_simp; rfl)); intro gb206 hg w86 hbox hb; have BK206 := Aside0.mk (hbox); have GW206 := gs_ hg; have GE206 := gs_ hg; replace HB := hbs_ hb; clear hb hbox hg; have hcz87 := blk_cell BK206.out; have hfz87 := blk_frozen BK206.out) | ((with_reducible refine gate_callee (f := 75) rfl ?_); refine goesC_ (some 8) Try.func75 #[.int .i64 (l0_0.length : Int), .int .i64 1, .int .i64 40] ?_; (with_reducible refine (spec_l01In.calls (l0_0.length : Int) 1 40 false _ A2.out).mono ?_); rintro e w' ⟨rfl, ⟨nd, rfl⟩⟩; refine ⟨_, rfl, ?_⟩))
  go_ret
  exact ⟨eq_, bl_⟩
def laws_toPolNode.f (a0_0 : Int) (a0_1 : Int) (a0_2 : Int) (a0_3 : Int) (a0_4 : Int) : Option (Int × Int × Int × Int × Int) := (laws_toRole.f a0_1 a0_2).bind fun bt219 => (some (a0_0, bt219.1, bt219.2, a0_3, a0_4))
set_option maxHeartbeats 8000000 in
set_option maxRecDepth 100000 in
theorem laws_toPolNode.calls (a0_0 : Int) (a0_1 : Int) (a0_2 : Int) (a0_3 : Int) (a0_4 : Int) (r1 : Int) (r2 : Int) (r3 : Int) (r4 : Int) (r5 : Int) (w : World) (h : laws_toPolNode.f a0_0 a0_1 a0_2 a0_3 a0_4 = some (r1, r2, r3, r4, r5)) :
  Calls Try.prog 126 #[.agg #[.int .i64 a0_0, .int .i64 a0_1, .int .i64 a0_2, .int .i64 a0_3, .int .i64 a0_4]] w fun e w' => e = .returned (.agg #[.int .i64 r1, .int .i64 r2, .int .i64 r3, .int .i64 r4, .int .i64 r5]) ∧ Below w.heap.size w w' := by
 have hu150 := Try.underlying150
 have hu105 := Try.underlying105
 have hu23 := Try.underlying23
 have hu27 := Try.underlying27
 have HB := Aside0.mk (Below.refl w.heap.size w)
 have H : ((laws_toRole.f a0_1 a0_2).bind fun bt219 => (some (a0_0, bt219.1, bt219.2, a0_3, a0_4))) = some (r1, r2, r3, r4, r5) := h
 clear h
 obtain ⟨⟨t219, t220⟩, A2, H⟩ := bindE_ H
 replace H : (some (a0_0, t219, t220, a0_3, a0_4)) = some (r1, r2, r3, r4, r5) := H
 simp only [Option.some.injEq, Prod.mk.injEq] at H
 obtain ⟨rfl, rfl, rfl, rfl, rfl⟩ := H
 go_enter Try.func126, Try.ntmps126
 go_wp2_with (first | ((with_reducible refine gate_dst (N := 1) rfl ?_); refine box_event ?hg (N := 1) ?hd (cs := #[.int .i64 a0_0, .int .i64 a0_1, .int .i64 a0_2, .int .i64 a0_3, .int .i64 a0_4]) (t := 150) ?hr ?_; (case hd => rfl); (case hg => rfl); (case hr => first | (go_simp; done) | (go_simp; rfl)); intro gb216 hg w3 hbox hb; have BK216 := Aside0.mk (hbox); have GW216 := gs_ hg; have GE216 := gs_ hg; replace HB := hbs_ hb; clear hb hbox hg) | ((with_reducible refine gate_dst (N := 2) rfl ?_); refine box_event ?hg (N := 2) ?hd (cs := #[.int .i64 0, .int .i64 0, .int .i64 0, .int .i64 0, .int .i64 0]) (t := 105) ?hr ?_; (case hd => rfl); (case hg => rfl); (case hr => first | (go_simp; done) | (go_simp; rfl)); intro gb217 hg w4 hbox hb; have BK217 := Aside0.mk (hbox); have GW217 := gs_ hg; have GE217 := gs_ hg; replace HB := hbs_ hb; have NB216_217 := Aside0.mk ((by rw [hg]; exact Nat.ne_of_lt (blk_lt (g := gb216) (o := .cells #[.int .i64 a0_0, .int .i64 a0_1, .int .i64 a0_2, .int .i64 a0_3, .int .i64 a0_4] 150 (0, 0)) (bk_ BK216)) : gb216 ≠ gb217)); have NB217_216 := Aside0.mk ((by rw [hg]; exact Nat.ne_of_gt (blk_lt (g := gb216) (o := .cells #[.int .i64 a0_0, .int .i64 a0_1, .int .i64 a0_2, .int .i64 a0_3, .int .i64 a0_4] 150 (0, 0)) (bk_ BK216)) : gb217 ≠ gb216)); replace BK216 := bkb_ BK216 hb; clear hb hbox hg) | ((with_reducible refine gate_dst (N := 3) rfl ?_); refine box_event ?hg (N := 3) ?hd (cs := #[.int .i64 0, .int .i64 0, .int .i64 0, .int .i64 0, .int .i64 0]) (t := 105) ?hr ?_; (case hd => rfl); (case hg => rfl); (case hr => first | (go_simp; done) | (go_simp; rfl)); intro gb218 hg w5 hbox hb; have BK218 := Aside0.mk (hbox); have GW218 := gs_ hg; have GE218 := gs_ hg; replace HB := hbs_ hb; have NB216_218 := Aside0.mk ((by rw [hg]; exact Nat.ne_of_lt (blk_lt (g := gb216) (o := .cells #[.int .i64 a0_0, .int .i64 a0_1, .int .i64 a0_2, .int .i64 a0_3, .int .i64 a0_4] 150 (0, 0)) (bk_ BK216)) : gb216 ≠ gb218)); have NB218_216 := Aside0.mk ((by rw [hg]; exact Nat.ne_of_gt (blk_lt (g := gb216) (o := .cells #[.int .i64 a0_0, .int .i64 a0_1, .int .i64 a0_2, .int .i64 a0_3, .int .i64 a0_4] 150 (0, 0)) (bk_ BK216)) : gb218 ≠ gb216)); replace BK216 := bkb_ BK216 hb; have NB217_218 := Aside0.mk ((by rw [hg]; exact Nat.ne_of_lt (blk_lt (g := gb217) (o := .cells #[.int .i64 0, .int .i64 0, .int .i64 0, .int .i64 0, .int .i64 0] 105 (0, 0)) (bk_ BK217)) : gb217 ≠ gb218)); have NB218_217 := Aside0.mk ((by rw [hg]; exact Nat.ne_of_gt (blk_lt (g := gb217) (o := .cells #[.int .i64 0, .int .i64 0, .int .i64 0, .int .i64 0, .int .i64 0] 105 (0, 0)) (bk_ BK217)) : gb218 ≠ gb217)); replace BK217 := bkb_ BK217 hb; clear hb hbox hg; have hnb6 := NB216_217.out; have hnc6 := NB217_216.out; have hnb7 := NB216_218.out; have hnc7 := NB218_216.out; have hcz8 := blk_cell BK216.out; have hfz8 := blk_frozen BK216.out; have hnb9 := NB218_217.out; have hnc9 := NB217_218.out; have hcz10 := blk_cell BK218.out; have hfz10 := blk_frozen BK218.out) | ((with_reducible refine gate_callee (f := 64) rfl ?_); refine goesC_ (some 9) Try.func64 #[.agg #[.int .i64 a0_1, .int .i64 a0_2]] ?_; (with_reducible refine (laws_toRole.calls a0_1 a0_2 t219 t220 _ A2.out).mono ?_); rintro e w11 ⟨rfl, hb⟩; refine ⟨_, rfl, ?_⟩; replace BK216 := Aside0.mk (blk_below (g := gb216) (o := .cells #[.int .i64 a0_0, .int .i64 a0_1, .int .i64 a0_2, .int .i64 a0_3, .int .i64 a0_4] 150 (0, 0)) (bk_ BK216) hb); replace BK217 := Aside0.mk (blk_below (g := gb217) (o := .cells #[.int .i64 0, .int .i64 0, .int .i64 0, .int .i64 0, .int .i64 0] 105 (0, 0)) (bk_ BK217) hb); replace BK218 := Aside0.mk (blk_below (g := gb218) (o := .cells #[.int .i64 a0_0, .int .i64 0, .int .i64 0, .int .i64 0, .int .i64 0] 105 (0, 0)) (bk_ BK218) hb); replace HB := hbs_ hb; clear hb; have hcz12 := blk_cell BK218.out; have hfz12 := blk_frozen BK218.out; have hcz13 := blk_cell BK216.out; have hfz13 := blk_frozen BK216.out; have hcz14 := blk_cell BK217.out; have hfz14 := blk_frozen BK217.out))
 refine bodyPost_ret (results_cell_row rfl _ _ gb217 105 #[.int .i64 a0_0, .int .i64 t219, .int .i64 t220, .int .i64 a0_3, .int .i64 a0_4] (0, 0) _ rfl (bk_ BK217) Try.underlying105 rfl (by kernel_rfl)) rfl ?_
 exact ⟨eq_, bl_⟩
def laws_toPolNodeS.l0 : Nat → List (S150) → List (S105) → Int → Option ((List (S105)))
 | 0, _, _, _ => none
 | k + 1, x0, x3, x4 => if x4 < (x0.length : Int) then (if 0 ≤ x4 then ((laws_toPolNode.f ((rd_T150 x0 x4).f0) ((rd_T150 x0 x4).f1.f0) ((rd_T150 x0 x4).f1.f1) ((rd_T150 x0 x4).f2) ((rd_T150 x0 x4).f3)).bind fun bt225 => (if x4 < (x3.length : Int) then (laws_toPolNodeS.l0 k x0 (x3.set (x4 : Int).toNat (⟨bt225.1, (⟨bt225.2.1, bt225.2.2.1⟩ : S27), bt225.2.2.2.1, bt225.2.2.2.2⟩ : S105)) (wrap64 (x4 + 1))) else (none))) else (none)) else (some x3)
def laws_toPolNodeS.f (k : Nat) (l0 : List (S150)) : Option ((List (S105))) := if 0 ≤ (l0.length : Int) then (if ((l0.length : Int) : Int).toNat ≤ 7036874417766 then (laws_toPolNodeS.l0 k l0 (List.replicate ((l0.length : Int) : Int).toNat z105) 0) else (none)) else (none)
set_option maxHeartbeats 8000000 in
set_option maxRecDepth 100000 in
theorem laws_toPolNodeS.calls (k : Nat) (A0 : Option Addr) (c0 : Nat) (l0 : List (S150)) (r : List (S105)) (w : World) (hr0 : Kd.C k150 w A0 l0.length l0) (hc0 : l0.length ≤ c0) (h : laws_toPolNodeS.f k l0 = some r) :
  Calls Try.prog 78 #[.slice A0 l0.length c0] w fun e w' => ∃ v0_ : Value, e = .returned (v0_) ∧ Kd.R k105 105 w' w.heap.size (fun _ => True) v0_ r ∧ Below w.heap.size w w' := by
 have hu150 := Try.underlying150
 have hu105 := Try.underlying105
 have HR0 := Aside0.mk hr0
 have HC0 := Aside0.mk hc0
 clear hr0 hc0
 have HB := Aside0.mk (Below.refl w.heap.size w)
 have H : (if 0 ≤ (l0.length : Int) then (if ((l0.length : Int) : Int).toNat ≤ 7036874417766 then (laws_toPolNodeS.l0 k l0 (List.replicate ((l0.length : Int) : Int).toNat z105) 0) else (none)) else (none)) = some r := h
 clear h
 by_cases c2 : 0 ≤ (l0.length : Int)
 ·rw [if_pos c2] at H
  have c2b0 := eq_true c2
  have c2b1 : decide (0 ≤ (l0.length : Int)) = true := decide_eq_true c2
  clear c2
  by_cases c3 : ((l0.length : Int) : Int).toNat ≤ 7036874417766
  ·rw [if_pos c3] at H
   have c3b0 := eq_true c3
   have c3b1 : decide (((l0.length : Int) : Int).toNat ≤ 7036874417766) = true := decide_eq_true c3
   clear c3
   obtain ⟨y221, hy221⟩ : ∃ y_ : List (S105), y_ = (List.replicate ((l0.length : Int) : Int).toNat z105) := ⟨_, rfl⟩
   replace H : (laws_toPolNodeS.l0 k l0 y221 0) = some r := by first | (rw [hy221]; with_reducible exact H) | (have H2_ := (Option.bind_some _ _).symm.trans H; rw [hy221]; with_reducible exact H2_) | (have H2_ := (Option.bind_some _ _).symm.trans H; with_reducible exact H2_) | with_reducible exact H | (rw [hy221]; exact H) | exact H
   have Ny221 := Aside0.mk hy221
   clear hy221
   have H' := Aside0.mk H
   clear H
   go_enter Try.func78, Try.ntmps78
   go_wp2_with (first | ((with_reducible refine gate_dst (N := 7) rfl ?_); refine Kd.R_make k105 _ 105 rfl (N := 7) rfl 37 _ _ rfl (l0.length : Int) rfl rfl Try.underlying37 (.agg #[(.int .i64 0), (.int .i64 0), (.int .i64 0), (.int .i64 0), (.int .i64 0)]) 40 info105 rfl (by decide) (by omega) z105 (ok := fun _ => True) (okp := fun _ => True) (k105_mkM _ _ _ z105 ) (fun _ hk => hk) trivial (of_decide_eq_true (by first | (with_reducible assumption) | assumption)) (Nat.le_trans (Nat.mul_le_mul_right _ (of_decide_eq_true (by first | (with_reducible assumption) | assumption) : (l0.length : Int).toNat ≤ 7036874417766)) (by omega)) (Below.refl _ _) (Nat.le_refl _) ?_; intro v222 w4 ho5 hb hg_ hnew_; clear hg_ hnew_; (first | rw [← Ny221.out] at ho5 | (simp only [Int.reduceToNat] at ho5; rw [← Ny221.out] at ho5)); have HO223 := Aside0.mk (Kd.R_lower ho5 bls_); replace HB := hbs_ hb; clear hb ho5))
   go_loopg [4] k (fun kq v4 w' => ∃ (x3_1 : List (S105)) (x4_1 : Int), v4 = .int .i64 x4_1 ∧ Aside0 (laws_toPolNodeS.l0 kq l0 x3_1 x4_1 = some r) ∧ Aside0 (kq ≤ k) ∧ Aside0 (Kd.R k105 105 w' w.heap.size (fun _ => True) v222 x3_1) ∧ Aside0 (Below w.heap.size w w'))
   case atStart => exact ⟨(y221), (0), (by first | rfl | (simp; done) | (simp [*]; done)), H', ⟨Nat.le_refl _⟩, ⟨by (with_reducible repeat (first | apply Kd.R_alloc | apply Kd.R_drewN | apply Kd.R_drew)); exact HO223.out⟩, ⟨bl_⟩⟩
   case round =>
    clear H'
    try clear c2
    try clear c2b0
    try clear c2b1
    try clear p2
    try clear c3
    try clear c3b0
    try clear c3b1
    obtain ⟨x3_1, x4_1, rfl, HA, HK1, HO_3, HB⟩ := hrel
    cases gk with
    | zero => exact absurd HA.out (by simp [laws_toPolNodeS.l0])
    | succ k1 =>
     have H := HA.out
     clear HA
     simp only [laws_toPolNodeS.l0] at H
     by_cases c6 : x4_1 < (l0.length : Int)
     ·rw [if_pos c6] at H
      have c6b0 : decide (x4_1 < (l0.length : Int)) = true := decide_eq_true c6
      clear c6
      by_cases c7 : 0 ≤ x4_1
      ·rw [if_pos c7] at H
       have c7b0 : decide (0 ≤ x4_1) = true := decide_eq_true c7
       clear c7
       obtain ⟨⟨t225, t226, t227, t228, t229⟩, A8, H⟩ := bindE_ H
       replace H : (if x4_1 < (x3_1.length : Int) then (laws_toPolNodeS.l0 k1 l0 (x3_1.set (x4_1 : Int).toNat (⟨t225, (⟨t226, t227⟩ : S27), t228, t229⟩ : S105)) (wrap64 (x4_1 + 1))) else (none)) = some r := H
       by_cases c9 : x4_1 < (x3_1.length : Int)
       ·rw [if_pos c9] at H
        have c9b0 : decide (x4_1 < (x3_1.length : Int)) = true := decide_eq_true c9
        clear c9
        obtain ⟨y230, hy230⟩ : ∃ y_ : List (S105), y_ = (x3_1.set (x4_1 : Int).toNat (⟨t225, (⟨t226, t227⟩ : S27), t228, t229⟩ : S105)) := ⟨_, rfl⟩
        replace H : (laws_toPolNodeS.l0 k1 l0 y230 (wrap64 (x4_1 + 1))) = some r := by first | (rw [hy230]; with_reducible exact H) | (have H2_ := (Option.bind_some _ _).symm.trans H; rw [hy230]; with_reducible exact H2_) | (have H2_ := (Option.bind_some _ _).symm.trans H; with_reducible exact H2_) | with_reducible exact H | (rw [hy230]; exact H) | exact H
        have Ny230 := Aside0.mk hy230
        clear hy230
        have H' := Aside0.mk H
        clear H
        have p224 : 0 ≤ (x4_1 : Int) := of_decide_eq_true (by first | (with_reducible assumption) | assumption)
        have q224 : x4_1 < (l0.length : Int) := of_decide_eq_true (by first | (with_reducible assumption) | assumption)
        obtain ⟨ad224, e224, hx224_0, hx224_1, hx224_2, hx224_3, hx224_4⟩ := at_T150 (Kd.C_below HR0.out HB.out) x4_1 p224 q224
        cases e224
        replace p224 := eq_true p224
        replace q224 := eq_true q224
        go_wp2_with (first | ((with_reducible refine gate_callee (f := 126) rfl ?_); refine goesC_ (some 20) Try.func126 #[.agg #[.int .i64 ((rd_T150 l0 x4_1).f0), .int .i64 ((rd_T150 l0 x4_1).f1.f0), .int .i64 ((rd_T150 l0 x4_1).f1.f1), .int .i64 ((rd_T150 l0 x4_1).f2), .int .i64 ((rd_T150 l0 x4_1).f3)]] ?_; (with_reducible refine (laws_toPolNode.calls ((rd_T150 l0 x4_1).f0) ((rd_T150 l0 x4_1).f1.f0) ((rd_T150 l0 x4_1).f1.f1) ((rd_T150 l0 x4_1).f2) ((rd_T150 l0 x4_1).f3) t225 t226 t227 t228 t229 _ A8.out).mono ?_); rintro e w11 ⟨rfl, hb⟩; refine ⟨_, rfl, ?_⟩; replace HO_3 := Aside0.mk (Kd.R_below (by (with_reducible repeat (first | apply Kd.R_alloc | apply Kd.R_drewN | apply Kd.R_drew)); exact HO_3.out) hb); replace HB := hbs_ hb; clear hb; have p10 : 0 ≤ (x4_1 : Int) := of_decide_eq_true (by first | (with_reducible assumption) | assumption); have q10 : (x4_1 : Int) < ((x3_1.length : Int) : Int) := of_decide_eq_true (by first | (with_reducible assumption) | assumption); obtain ⟨go10, co10, eo10, gb10, gl10, cl10, HG10⟩ := Kd.R_form HO_3.out (by omega); (first | cases eo10 | (injection eo10 with ea_ en_ ec_; (first | subst ea_ | (injection ea_ with ea_; subst ea_)); subst ec_; clear en_)); have GB10 := Aside0.mk gb10; have GG10 := Aside0.mk HG10; clear gb10 gl10 HG10; obtain ⟨ce10, hcl10, hM10, hcc10, hfr10⟩ := Kd.R_elem HO_3.out z105 (x4_1 : Int) p10 q10; obtain rfl := k105_openM hM10; have hx10_0 : w11.cell? ⟨go10, (x4_1 : Int).toNat * 5, none⟩ = some (.int .i64 ((rd_T105 x3_1 x4_1).f0)) := hcc10 0 _ rfl; have hx10_1 : w11.cell? ⟨go10, (x4_1 : Int).toNat * 5 + 1, none⟩ = some (.int .i64 ((rd_T105 x3_1 x4_1).f1.f0)) := hcc10 1 _ rfl; have hx10_2 : w11.cell? ⟨go10, (x4_1 : Int).toNat * 5 + 2, none⟩ = some (.int .i64 ((rd_T105 x3_1 x4_1).f1.f1)) := hcc10 2 _ rfl; have hx10_3 : w11.cell? ⟨go10, (x4_1 : Int).toNat * 5 + 3, none⟩ = some (.int .i64 ((rd_T105 x3_1 x4_1).f2)) := hcc10 3 _ rfl; have hx10_4 : w11.cell? ⟨go10, (x4_1 : Int).toNat * 5 + 4, none⟩ = some (.int .i64 ((rd_T105 x3_1 x4_1).f3)) := hcc10 4 _ rfl; have hf10_0 : w11.frozen? ⟨go10, (x4_1 : Int).toNat * 5, none⟩ = false := hfr10 0; have hf10_1 : w11.frozen? ⟨go10, (x4_1 : Int).toNat * 5 + 1, none⟩ = false := hfr10 1; have hf10_2 : w11.frozen? ⟨go10, (x4_1 : Int).toNat * 5 + 2, none⟩ = false := hfr10 2; have hf10_3 : w11.frozen? ⟨go10, (x4_1 : Int).toNat * 5 + 3, none⟩ = false := hfr10 3; have hf10_4 : w11.frozen? ⟨go10, (x4_1 : Int).toNat * 5 + 4, none⟩ = false := hfr10 4; clear hcl10 hcc10 hfr10 hM10; replace p10 := eq_true p10; replace q10 := eq_true q10; have HX12 := Aside0.mk (show Kd.R k105 105 w11 w.heap.size (fun _ => True) (.slice (some ⟨go10, 0, none⟩) x3_1.length co10) x3_1 from (by (with_reducible repeat (first | apply Kd.R_alloc | apply Kd.R_drewN | apply Kd.R_drew)); exact HO_3.out)); obtain ⟨ce12, hcl12, hM12, hcc12, hfr12⟩ := Kd.R_elem HX12.out z105 (x4_1 : Int) (of_decide_eq_true (by first | (with_reducible assumption) | assumption)) (by have h_ : (x4_1 : Int) < ((x3_1.length : Int) : Int) := of_decide_eq_true (by first | (with_reducible assumption) | assumption); first | exact h_ | (have e_ := (Kd.R_reads' HO_3.out).1; omega) | simpa using h_); obtain rfl := k105_openM hM12; have HP12 := Kd.R_seg HX12.out (x4_1 : Int) (of_decide_eq_true (by first | (with_reducible assumption) | assumption)) (by have h_ : (x4_1 : Int) < ((x3_1.length : Int) : Int) := of_decide_eq_true (by first | (with_reducible assumption) | assumption); first | exact h_ | (have e_ := (Kd.R_reads' HO_3.out).1; omega) | simpa using h_) (seg := [.int .i64 t225, .int .i64 t226, .int .i64 t227, .int .i64 t228, .int .i64 t229]) (j := 0) hcl12 hcc12 (show 5 ≤ 5 from by decide) (x' := (⟨t225, (⟨t226, t227⟩ : S27), t228, t229⟩ : S105)) (k105_mkM _ _ _ (⟨t225, (⟨t226, t227⟩ : S27), t228, t229⟩ : S105) ) (fun _ hk => hk); have hx12_0 := hcc12 0 _ rfl; (try simp only [show (k105).sz = 5 from rfl, Nat.mul_one, Nat.add_zero] at hx12_0); have hf12_0 := hfr12 0; (try simp only [show (k105).sz = 5 from rfl, Nat.mul_one, Nat.add_zero] at hf12_0); have hx12_1 := hcc12 1 _ rfl; (try simp only [show (k105).sz = 5 from rfl, Nat.mul_one, Nat.add_zero] at hx12_1); have hf12_1 := hfr12 1; (try simp only [show (k105).sz = 5 from rfl, Nat.mul_one, Nat.add_zero] at hf12_1); have hx12_2 := hcc12 2 _ rfl; (try simp only [show (k105).sz = 5 from rfl, Nat.mul_one, Nat.add_zero] at hx12_2); have hf12_2 := hfr12 2; (try simp only [show (k105).sz = 5 from rfl, Nat.mul_one, Nat.add_zero] at hf12_2); have hx12_3 := hcc12 3 _ rfl; (try simp only [show (k105).sz = 5 from rfl, Nat.mul_one, Nat.add_zero] at hx12_3); have hf12_3 := hfr12 3; (try simp only [show (k105).sz = 5 from rfl, Nat.mul_one, Nat.add_zero] at hf12_3); have hx12_4 := hcc12 4 _ rfl; (try simp only [show (k105).sz = 5 from rfl, Nat.mul_one, Nat.add_zero] at hx12_4); have hf12_4 := hfr12 4; (try simp only [show (k105).sz = 5 from rfl, Nat.mul_one, Nat.add_zero] at hf12_4); clear hcl12 hcc12 hfr12 hM12) | ((with_reducible refine gate_store (t := 105) (p := 21) rfl ?_); refine store_event (t := 105) (p := 21) (v := ?vo_w13) (w1 := (((((w11.setCell ⟨go10, (x4_1 : Int).toNat * 5, none⟩ (.int .i64 t225)).setCell ⟨go10, (x4_1 : Int).toNat * 5 + 1, none⟩ (.int .i64 t226)).setCell ⟨go10, (x4_1 : Int).toNat * 5 + 2, none⟩ (.int .i64 t227)).setCell ⟨go10, (x4_1 : Int).toNat * 5 + 3, none⟩ (.int .i64 t228)).setCell ⟨go10, (x4_1 : Int).toNat * 5 + 4, none⟩ (.int .i64 t229))) ?hg ?ho ?hn ?hr ?_; (case ho => rfl); (case hg => rfl); (case hn => rfl); (case hr => first | (go_simp; done) | (go_simp; rfl)); intro w13 hw; have hg : w11.grownBy w13 (some go10) := (by rw [hw]; exact HP12.2); have hp_ : Kd.R k105 105 w13 w.heap.size (fun _ => True) (.slice (some ⟨go10, 0, none⟩) x3_1.length co10) y230 := (by rw [hw, Ny230.out]; exact HP12.1); clear HP12; replace HO_3 := Aside0.mk (hp_); replace HB := Aside0.mk ((by rw [hw]; exact below_set (below_set (below_set (below_set (below_set (HB.out) GB10.out) GB10.out) GB10.out) GB10.out) GB10.out : Below w.heap.size w w13)); clear hg hw hp_))
        go_roundg k1
        case measure => have := HK1.out; omega
        case rel => exact ⟨(y230), (wrap64 (x4_1 + 1)), (by first | rfl | (simp; done) | (simp [*]; done)), H', ⟨by have := HK1.out; omega⟩, ⟨by (with_reducible repeat (first | apply Kd.R_alloc | apply Kd.R_drewN | apply Kd.R_drew)); exact HO_3.out⟩, ⟨bl_⟩⟩
       ·rw [if_neg c9] at H
        exact absurd H (by simp)
      ·rw [if_neg c7] at H
       exact absurd H (by simp)
     ·rw [if_neg c6] at H
      have c6b0 : decide (x4_1 < (l0.length : Int)) = false := decide_eq_false c6
      clear c6
      obtain rfl := Option.some.inj H
      go_wp2
      go_ret
      exact ⟨_, eq_, by (with_reducible repeat (first | apply Kd.R_alloc | apply Kd.R_drewN | apply Kd.R_drew)); exact HO_3.out, bl_⟩
  ·rw [if_neg c3] at H
   exact absurd H (by simp)
 ·rw [if_neg c2] at H
  exact absurd H (by simp)
def laws_toPolicy.f (k : Nat) (l0_0 : List (S150)) : Option ((List (S105))) := (laws_toPolNodeS.f k l0_0).bind fun t234 => (some t234)
set_option maxHeartbeats 8000000 in
set_option maxRecDepth 100000 in
theorem laws_toPolicy.calls (k : Nat) (A0_0 : Option Addr) (c0_0 : Nat) (l0_0 : List (S150)) (r : List (S105)) (w : World) (hr0_0 : Kd.C k150 w A0_0 l0_0.length l0_0) (hc0_0 : l0_0.length ≤ c0_0) (h : laws_toPolicy.f k l0_0 = some r) :
  Calls Try.prog 20 #[.agg #[.slice A0_0 l0_0.length c0_0]] w fun e w' => ∃ v0_ : Value, e = .returned (.agg #[v0_]) ∧ Kd.R k105 105 w' w.heap.size (fun _ => True) v0_ r ∧ Below w.heap.size w w' := by
 have hu34 := Try.underlying34
 have hu39 := Try.underlying39
 have HR0_0 := Aside0.mk hr0_0
 have HC0_0 := Aside0.mk hc0_0
 clear hr0_0 hc0_0
 have HB := Aside0.mk (Below.refl w.heap.size w)
 have H : ((laws_toPolNodeS.f k l0_0).bind fun t234 => (some t234)) = some r := h
 clear h
 obtain ⟨t234, A2, H⟩ := bindE_ H
 obtain rfl := Option.some.inj H
 go_enter Try.func20, Try.ntmps20
 go_wp2_with (first | ((with_reducible refine gate_dst (N := 1) rfl ?_); refine box_event ?hg (N := 1) ?hd (cs := #[.slice A0_0 l0_0.length c0_0]) (t := 34) ?hr ?_; (case hd => rfl); (case hg => rfl); (case hr => first | (go_simp; done) | (go_simp; rfl)); intro gb231 hg w3 hbox hb; have BK231 := Aside0.mk (hbox); have GW231 := gs_ hg; have GE231 := gs_ hg; replace HB := hbs_ hb; clear hb hbox hg) | ((with_reducible refine gate_dst (N := 2) rfl ?_); refine box_event ?hg (N := 2) ?hd (cs := #[.slice none 0 0]) (t := 39) ?hr ?_; (case hd => rfl); (case hg => rfl); (case hr => first | (go_simp; done) | (go_simp; rfl)); intro gb232 hg w4 hbox hb; have BK232 := Aside0.mk (hbox); have GW232 := gs_ hg; have GE232 := gs_ hg; replace HB := hbs_ hb; have NB231_232 := Aside0.mk ((by rw [hg]; exact Nat.ne_of_lt (blk_lt (g := gb231) (o := .cells #[.slice A0_0 l0_0.length c0_0] 34 (0, 0)) (bk_ BK231)) : gb231 ≠ gb232)); have NB232_231 := Aside0.mk ((by rw [hg]; exact Nat.ne_of_gt (blk_lt (g := gb231) (o := .cells #[.slice A0_0 l0_0.length c0_0] 34 (0, 0)) (bk_ BK231)) : gb232 ≠ gb231)); replace BK231 := bkb_ BK231 hb; clear hb hbox hg) | ((with_reducible refine gate_dst (N := 3) rfl ?_); refine box_event ?hg (N := 3) ?hd (cs := #[.slice none 0 0]) (t := 39) ?hr ?_; (case hd => rfl); (case hg => rfl); (case hr => first | (go_simp; done) | (go_simp; rfl)); intro gb233 hg w5 hbox hb; have BK233 := Aside0.mk (hbox); have GW233 := gs_ hg; have GE233 := gs_ hg; replace HB := hbs_ hb; have NB231_233 := Aside0.mk ((by rw [hg]; exact Nat.ne_of_lt (blk_lt (g := gb231) (o := .cells #[.slice A0_0 l0_0.length c0_0] 34 (0, 0)) (bk_ BK231)) : gb231 ≠ gb233)); have NB233_231 := Aside0.mk ((by rw [hg]; exact Nat.ne_of_gt (blk_lt (g := gb231) (o := .cells #[.slice A0_0 l0_0.length c0_0] 34 (0, 0)) (bk_ BK231)) : gb233 ≠ gb231)); replace BK231 := bkb_ BK231 hb; have NB232_233 := Aside0.mk ((by rw [hg]; exact Nat.ne_of_lt (blk_lt (g := gb232) (o := .cells #[.slice none 0 0] 39 (0, 0)) (bk_ BK232)) : gb232 ≠ gb233)); have NB233_232 := Aside0.mk ((by rw [hg]; exact Nat.ne_of_gt (blk_lt (g := gb232) (o := .cells #[.slice none 0 0] 39 (0, 0)) (bk_ BK232)) : gb233 ≠ gb232)); replace BK232 := bkb_ BK232 hb; clear hb hbox hg; have hnb6 := NB231_232.out; have hnc6 := NB232_231.out; have hnb7 := NB231_233.out; have hnc7 := NB233_231.out; have hcz8 := blk_cell BK231.out; have hfz8 := blk_frozen BK231.out) | ((with_reducible refine gate_callee (f := 78) rfl ?_); refine goesC_ (some 6) Try.func78 #[.slice A0_0 l0_0.length c0_0] ?_; (with_reducible refine (laws_toPolNodeS.calls k _ _ l0_0 t234 _ ?side1 ?side2 A2.out).mono ?_); (case side1 => repeat (first | exact (Kd.C_below HR0_0.out HB.out) | (with_reducible refine Kd.C_alloc ?_ _) | (with_reducible refine Kd.C_drewN ?_ _) | (with_reducible refine Kd.C_drew ?_))); (case side2 => exact HC0_0.out); rintro e w9 ⟨v235, rfl, ho0, hb⟩; refine ⟨_, rfl, ?_⟩; have HO236 := Aside0.mk (Kd.R_lower ho0 bls_); replace BK231 := bkb_ BK231 hb; replace BK232 := bkb_ BK232 hb; replace BK233 := bkb_ BK233 hb; replace HB := hbs_ hb; (try clear hb); (try clear hb2); (try clear hk); (try clear hi); (try clear ho0); obtain ⟨Ao10, co10, eo10⟩ := Kd.R_slice HO236.out; subst eo10; have hnb11 := NB233_232.out; have hnc11 := NB232_233.out; have hcz12 := blk_cell BK233.out; have hfz12 := blk_frozen BK233.out; have hcz13 := blk_cell BK232.out; have hfz13 := blk_frozen BK232.out))
 refine bodyPost_ret (results_cell_row rfl _ _ gb232 39 #[.slice Ao10 t234.length co10] (0, 0) _ rfl (bk_ BK232) Try.underlying39 rfl (by kernel_rfl)) rfl ?_
 exact ⟨_, eq_, by (with_reducible repeat (first | apply Kd.R_alloc | apply Kd.R_drewN | apply Kd.R_drew)); exact Kd.R_mono (Kd.R_far (p := ⟨gb232, 0, none⟩) (Kd.R_far (p := ⟨gb233, 0, none⟩) (Kd.R_types (Kd.R_types HO236.out BK233.out (by decide)) BK232.out (by decide)) (fun _ hk => hk.1.2) (.slice Ao10 t234.length co10)) (fun _ hk => hk.2) (.slice Ao10 t234.length co10)) (fun _ hk => trivial), bl_⟩
end Go.Proofs.Ytcgnegnljffkmaa.PA
