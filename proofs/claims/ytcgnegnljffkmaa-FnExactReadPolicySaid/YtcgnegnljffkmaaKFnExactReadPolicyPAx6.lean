import Derived.Test.YtcgnegnljffkmaaKFnExactReadPolicyPAx0
import Derived.Test.YtcgnegnljffkmaaKFnExactReadPolicyPAx1
import Derived.Test.YtcgnegnljffkmaaKFnExactReadPolicyPAx3
-- A text of this claim: written by the session's own program out of the translation (wip/tools). Lean checks it.
namespace Go.Proofs.Ytcgnegnljffkmaa.PA
open Go.RowKit Go.Proofs.YtcgnegnljffkmaaW.PrintWords Go.Proofs.YtcgnegnljffkmaaW.PrintLast Go.Proofs.YtcgnegnljffkmaaW.PrintMore
attribute [local go_sem] max2_int min2_int max_two min_two max_three min_three max_four min_four   -- for this text's walks alone
set_option linter.unusedVariables false
set_option linter.unusedSimpArgs false
attribute [local go_sem high] eqA27
mutual
def impl_PolicyOk.l0 : Nat → List (S105) → Int → Int → Option (Bool)
 | 0, _, _, _ => none
 | k + 1, x13, x14, x15 => if x15 < x14 then (if 0 ≤ x15 then (if x15 < (x13.length : Int) then (if ((rd_T105 x13 x15).f0) = 1 then ((impl_RoleOk.f ((rd_T105 x13 x15).f1.f0) ((rd_T105 x13 x15).f1.f1)).bind fun t242 => (if t242 = true then (if ((rd_T105 x13 x15).f2) = 0 then (if (((rd_T105 x13 x15).f3) = 0) then (impl_PolicyOk.l0 k x13 x14 (wrap64 (x15 + 1))) else (some false)) else (some false)) else (some false))) else (if ((rd_T105 x13 x15).f0) = 2 then (impl_PolicyOk.j1 k x15 false x13 x14 x15 ((rd_T105 x13 x15).f0) (((rd_T105 x13 x15).f0) == 2) ((rd_T105 x13 x15).f0) ((rd_T105 x13 x15).f1.f0) ((rd_T105 x13 x15).f1.f1) ((rd_T105 x13 x15).f2) ((rd_T105 x13 x15).f3) 0 0) else (impl_PolicyOk.j1 k x15 false x13 x14 x15 ((rd_T105 x13 x15).f0) (((rd_T105 x13 x15).f0) == 3) ((rd_T105 x13 x15).f0) ((rd_T105 x13 x15).f1.f0) ((rd_T105 x13 x15).f1.f1) ((rd_T105 x13 x15).f2) ((rd_T105 x13 x15).f3) 0 0))) else (none)) else (none)) else (some true)
def impl_PolicyOk.j1 : Nat → Int → Bool → List (S105) → Int → Int → Int → Bool → Int → Int → Int → Int → Int → Int → Int → Option (Bool)
 | 0, _, _, _, _, _, _, _, _, _, _, _, _, _, _ => none
 | k + 1, x3, x6, x13, x14, x15, x22, x38, x241000, x241001, x241002, x241003, x241004, x242000, x242001 => if x38 = true then (if (x241001 == x242000 && (x241002 == x242001)) = true then ((impl_in.f x241003 0 (wrap64 (x3 - 1))).bind fun t243 => (if t243 = true then ((impl_in.f x241004 0 (wrap64 (x3 - 1))).bind fun t244 => (if t244 = true then (impl_PolicyOk.l0 k x13 x14 (wrap64 (x15 + 1))) else (some false))) else (some false))) else (some false)) else (if x22 = 4 then (if (x241001 == x242000 && (x241002 == x242001)) = true then ((impl_in.f x241003 0 (wrap64 (x3 - 1))).bind fun t245 => (if t245 = true then (if x241004 = 0 then (impl_PolicyOk.l0 k x13 x14 (wrap64 (x15 + 1))) else (some false)) else (some false))) else (some false)) else (if x6 = true then (impl_PolicyOk.l0 k x13 x14 (wrap64 (x15 + 1))) else (some false)))
end
def impl_PolicyOk.f (k : Nat) (l0_0 : List (S105)) : Option (Bool) := (impl_in.f (l0_0.length : Int) 1 40).bind fun t238 => (if t238 = true then (impl_PolicyOk.l0 k l0_0 (l0_0.length : Int) 0) else (some false))
set_option maxHeartbeats 8000000 in
set_option maxRecDepth 100000 in
theorem impl_PolicyOk.calls (k : Nat) (A0_0 : Option Addr) (c0_0 : Nat) (l0_0 : List (S105)) (r : Bool) (w : World) (hr0_0 : Kd.C k105 w A0_0 l0_0.length l0_0) (hc0_0 : l0_0.length ≤ c0_0) (h : impl_PolicyOk.f k l0_0 = some r) :
  Calls Try.prog 21 #[.agg #[.slice A0_0 l0_0.length c0_0]] w fun e w' => e = .returned (.bool r) ∧ Below w.heap.size w w' := by
 have hu39 := Try.underlying39
 have hu105 := Try.underlying105
 have hu27 := Try.underlying27
 have HR0_0 := Aside0.mk hr0_0
 have HC0_0 := Aside0.mk hc0_0
 clear hr0_0 hc0_0
 have HB := Aside0.mk (Below.refl w.heap.size w)
 have H : ((impl_in.f (l0_0.length : Int) 1 40).bind fun t238 => (if t238 = true then (impl_PolicyOk.l0 k l0_0 (l0_0.length : Int) 0) else (some false))) = some r := h
 clear h
 obtain ⟨t238, A2, H⟩ := bindE_ H
 by_cases c3 : t238 = true
 ·subst c3
  replace H := ite_t_ H
  have H' := Aside0.mk H
  clear H
  go_enter Try.func21, Try.ntmps21
  go_wp2_with (first | ((with_reducible refine gate_dst (N := 1) rfl ?_); refine box_event ?hg (N := 1) ?hd (cs := #[.slice A0_0 l0_0.length c0_0]) (t := 39) ?hr ?_; (case hd => rfl); (case hg => rfl); (case hr => first | (go_simp; done) | (go_simp; rfl)); intro gb237 hg w4 hbox hb; have BK237 := Aside0.mk (hbox); have GW237 := gs_ hg; have GE237 := gs_ hg; replace HB := hbs_ hb; clear hb hbox hg; have hcz5 := blk_cell BK237.out; have hfz5 := blk_frozen BK237.out) | ((with_reducible refine gate_callee (f := 79) rfl ?_); refine goesC_ (some 10) Try.func79 #[.int .i64 (l0_0.length : Int), .int .i64 1, .int .i64 40] ?_; (with_reducible refine (impl_in.calls (l0_0.length : Int) 1 40 true _ A2.out).mono ?_); rintro e w' ⟨rfl, ⟨nd, rfl⟩⟩; refine ⟨_, rfl, ?_⟩))
  go_loopg [15] k (fun kq v15 w' => ∃ (x15_1 : Int), v15 = .int .i64 x15_1 ∧ Aside0 (impl_PolicyOk.l0 kq l0_0 (l0_0.length : Int) x15_1 = some r) ∧ Aside0 (kq ≤ k) ∧ Aside0 (w'.heap[gb237]? = some (.cells #[(.slice A0_0 l0_0.length c0_0)] 39 (0, 0))) ∧ Aside0 (Below w.heap.size w w'))
  case atStart => exact ⟨(0), (by first | rfl | (simp; done) | (simp [*]; done)), H', ⟨Nat.le_refl _⟩, ⟨bk_ BK237⟩, ⟨bl_⟩⟩
  case round =>
   clear H'
   try clear c2
   try clear p2
   try clear c3
   try clear hcz5
   try clear hfz5
   obtain ⟨x15_1, rfl, HA, HK1, BK237, HB⟩ := hrel
   cases gk with
   | zero => exact absurd HA.out (by simp [impl_PolicyOk.l0])
   | succ k1 =>
    have H := HA.out
    clear HA
    simp only [impl_PolicyOk.l0] at H
    by_cases c6 : x15_1 < (l0_0.length : Int)
    ·rw [if_pos c6] at H
     have c6b0 : decide (x15_1 < (l0_0.length : Int)) = true := decide_eq_true c6
     clear c6
     by_cases c7 : 0 ≤ x15_1
     ·rw [if_pos c7] at H
      have c7b0 : decide (0 ≤ x15_1) = true := decide_eq_true c7
      clear c7
      by_cases c8 : x15_1 < (l0_0.length : Int)
      ·rw [if_pos c8] at H
       have c8b0 : decide (x15_1 < (l0_0.length : Int)) = true := decide_eq_true c8
       clear c8
       by_cases c9 : ((rd_T105 l0_0 x15_1).f0) = 1
       ·rw [if_pos c9] at H
        have c9b0 : (((rd_T105 l0_0 x15_1).f0) == 1) = true := beq_iff_eq.mpr c9
        have c9b1 : (((rd_T105 l0_0 x15_1).f0) != 1) = false := bne_eq_false_iff_eq.mpr c9
        clear c9
        obtain ⟨t242, A10, H⟩ := bindE_ H
        by_cases c11 : t242 = true
        ·subst c11
         replace H := ite_t_ H
         by_cases c12 : ((rd_T105 l0_0 x15_1).f2) = 0
         ·rw [if_pos c12] at H
          have c12b0 : (((rd_T105 l0_0 x15_1).f2) == 0) = true := beq_iff_eq.mpr c12
          have c12b1 : (((rd_T105 l0_0 x15_1).f2) != 0) = false := bne_eq_false_iff_eq.mpr c12
          clear c12
          by_cases c13 : (((rd_T105 l0_0 x15_1).f3) = 0)
          ·rw [if_pos c13] at H
           have c13b0 : (((rd_T105 l0_0 x15_1).f3) == 0) = true := beq_iff_eq.mpr c13
           have c13b1 : (((rd_T105 l0_0 x15_1).f3) != 0) = false := bne_eq_false_iff_eq.mpr c13
           clear c13
           have H' := Aside0.mk H
           clear H
           have p239 : 0 ≤ (x15_1 : Int) := of_decide_eq_true (by first | (with_reducible assumption) | assumption)
           have q239 : x15_1 < (l0_0.length : Int) := of_decide_eq_true (by first | (with_reducible assumption) | assumption)
           obtain ⟨ad239, e239, hx239_0, hx239_1, hx239_2, hx239_3, hx239_4⟩ := at_T105 (Kd.C_below HR0_0.out HB.out) x15_1 p239 q239
           cases e239
           replace p239 := eq_true p239
           replace q239 := eq_true q239
           go_wp2_with (first | ((with_reducible refine gate_dst (N := 4) rfl ?_); refine box_event ?hg (N := 4) ?hd (cs := #[.int .i64 0, .int .i64 0, .int .i64 0, .int .i64 0, .int .i64 0]) (t := 105) ?hr ?_; (case hd => rfl); (case hg => rfl); (case hr => first | (go_simp; done) | (go_simp; rfl)); intro gb240 hg w14 hbox hb; have BK240 := Aside0.mk (hbox); have GW240 := gs_ hg; have GE240 := gs_ hg; replace HB := hbs_ hb; have NB237_240 := Aside0.mk ((by rw [hg]; exact Nat.ne_of_lt (blk_lt (g := gb237) (o := .cells #[.slice (some ad239) l0_0.length c0_0] 39 (0, 0)) (bk_ BK237)) : gb237 ≠ gb240)); have NB240_237 := Aside0.mk ((by rw [hg]; exact Nat.ne_of_gt (blk_lt (g := gb237) (o := .cells #[.slice (some ad239) l0_0.length c0_0] 39 (0, 0)) (bk_ BK237)) : gb240 ≠ gb237)); replace BK237 := bkb_ BK237 hb; clear hb hbox hg; have hnb15 := NB240_237.out; have hnc15 := NB237_240.out; have hcz16 := blk_cell BK240.out; have hfz16 := blk_frozen BK240.out) | ((with_reducible refine gate_dst (N := 5) rfl ?_); refine box_event ?hg (N := 5) ?hd (cs := #[.int .i64 0, .int .i64 0]) (t := 27) ?hr ?_; (case hd => rfl); (case hg => rfl); (case hr => first | (go_simp; done) | (go_simp; rfl)); intro gb241 hg w17 hbox hb; have BK241 := Aside0.mk (hbox); have GW241 := gs_ hg; have GE241 := gs_ hg; replace HB := hbs_ hb; have NB237_241 := Aside0.mk ((by rw [hg]; exact Nat.ne_of_lt (blk_lt (g := gb237) (o := .cells #[.slice (some ad239) l0_0.length c0_0] 39 (0, 0)) (bk_ BK237)) : gb237 ≠ gb241)); have NB241_237 := Aside0.mk ((by rw [hg]; exact Nat.ne_of_gt (blk_lt (g := gb237) (o := .cells #[.slice (some ad239) l0_0.length c0_0] 39 (0, 0)) (bk_ BK237)) : gb241 ≠ gb237)); replace BK237 := Aside0.mk (blk_below (g := gb237) (o := .cells #[.slice (some ad239) l0_0.length c0_0] 39 (0, 0)) (bk_ BK237) hb); have NB240_241 := Aside0.mk ((by rw [hg]; exact Nat.ne_of_lt (blk_lt (g := gb240) (o := .cells #[.int .i64 ((rd_T105 l0_0 x15_1).f0), .int .i64 ((rd_T105 l0_0 x15_1).f1.f0), .int .i64 ((rd_T105 l0_0 x15_1).f1.f1), .int .i64 ((rd_T105 l0_0 x15_1).f2), .int .i64 ((rd_T105 l0_0 x15_1).f3)] 105 (0, 0)) (bk_ BK240)) : gb240 ≠ gb241)); have NB241_240 := Aside0.mk ((by rw [hg]; exact Nat.ne_of_gt (blk_lt (g := gb240) (o := .cells #[.int .i64 ((rd_T105 l0_0 x15_1).f0), .int .i64 ((rd_T105 l0_0 x15_1).f1.f0), .int .i64 ((rd_T105 l0_0 x15_1).f1.f1), .int .i64 ((rd_T105 l0_0 x15_1).f2), .int .i64 ((rd_T105 l0_0 x15_1).f3)] 105 (0, 0)) (bk_ BK240)) : gb241 ≠ gb240)); replace BK240 := Aside0.mk (blk_below (g := gb240) (o := .cells #[.int .i64 ((rd_T105 l0_0 x15_1).f0), .int .i64 ((rd_T105 l0_0 x15_1).f1.f0), .int .i64 ((rd_T105 l0_0 x15_1).f1.f1), .int .i64 ((rd_T105 l0_0 x15_1).f2), .int .i64 ((rd_T105 l0_0 x15_1).f3)] 105 (0, 0)) (bk_ BK240) hb); clear hb hbox hg; have hnb18 := NB241_237.out; have hnc18 := NB237_241.out; have hnb19 := NB241_240.out; have hnc19 := NB240_241.out; have hcz20 := blk_cell BK241.out; have hfz20 := blk_frozen BK241.out; have hcz21 := blk_cell BK240.out; have hfz21 := blk_frozen BK240.out) | ((with_reducible refine gate_callee (f := 80) rfl ?_); refine goesC_ (some 27) Try.func80 #[.agg #[.int .i64 ((rd_T105 l0_0 x15_1).f1.f0), .int .i64 ((rd_T105 l0_0 x15_1).f1.f1)]] ?_; (with_reducible refine (impl_RoleOk.calls ((rd_T105 l0_0 x15_1).f1.f0) ((rd_T105 l0_0 x15_1).f1.f1) true _ A10.out).mono ?_); rintro e w22 ⟨rfl, hb⟩; refine ⟨_, rfl, ?_⟩; replace BK237 := Aside0.mk (blk_below (g := gb237) (o := .cells #[.slice (some ad239) l0_0.length c0_0] 39 (0, 0)) (bk_ BK237) hb); replace BK240 := Aside0.mk (blk_below (g := gb240) (o := .cells #[.int .i64 ((rd_T105 l0_0 x15_1).f0), .int .i64 ((rd_T105 l0_0 x15_1).f1.f0), .int .i64 ((rd_T105 l0_0 x15_1).f1.f1), .int .i64 ((rd_T105 l0_0 x15_1).f2), .int .i64 ((rd_T105 l0_0 x15_1).f3)] 105 (0, 0)) (bk_ BK240) hb); replace BK241 := Aside0.mk (blk_below (g := gb241) (o := .cells #[.int .i64 0, .int .i64 0] 27 (0, 0)) (bk_ BK241) hb); replace HB := hbs_ hb; clear hb; have hcz23 := blk_cell BK240.out; have hfz23 := blk_frozen BK240.out))
           go_roundg k1
           case measure => have := HK1.out; omega
           case rel => exact ⟨(wrap64 (x15_1 + 1)), (by first | rfl | (simp; done) | (simp [*]; done)), H', ⟨by have := HK1.out; omega⟩, ⟨bk_ BK237⟩, ⟨bl_⟩⟩
          ·rw [if_neg c13] at H
           have c13b0 : (((rd_T105 l0_0 x15_1).f3) == 0) = false := beq_eq_false_iff_ne.mpr c13
           have c13b1 : (((rd_T105 l0_0 x15_1).f3) != 0) = true := bne_iff_ne.mpr c13
           obtain rfl := Option.some.inj H
           have p239 : 0 ≤ (x15_1 : Int) := of_decide_eq_true (by first | (with_reducible assumption) | assumption)
           have q239 : x15_1 < (l0_0.length : Int) := of_decide_eq_true (by first | (with_reducible assumption) | assumption)
           obtain ⟨ad239, e239, hx239_0, hx239_1, hx239_2, hx239_3, hx239_4⟩ := at_T105 (Kd.C_below HR0_0.out HB.out) x15_1 p239 q239
           cases e239
           replace p239 := eq_true p239
           replace q239 := eq_true q239
           go_wp2_with (first | ((with_reducible refine gate_dst (N := 4) rfl ?_); refine box_event ?hg (N := 4) ?hd (cs := #[.int .i64 0, .int .i64 0, .int .i64 0, .int .i64 0, .int .i64 0]) (t := 105) ?hr ?_; (case hd => rfl); (case hg => rfl); (case hr => first | (go_simp; done) | (go_simp; rfl)); intro gb240 hg w24 hbox hb; have BK240 := Aside0.mk (hbox); have GW240 := gs_ hg; have GE240 := gs_ hg; replace HB := hbs_ hb; have NB237_240 := Aside0.mk ((by rw [hg]; exact Nat.ne_of_lt (blk_lt (g := gb237) (o := .cells #[.slice (some ad239) l0_0.length c0_0] 39 (0, 0)) (bk_ BK237)) : gb237 ≠ gb240)); have NB240_237 := Aside0.mk ((by rw [hg]; exact Nat.ne_of_gt (blk_lt (g := gb237) (o := .cells #[.slice (some ad239) l0_0.length c0_0] 39 (0, 0)) (bk_ BK237)) : gb240 ≠ gb237)); replace BK237 := bkb_ BK237 hb; clear hb hbox hg; have hnb25 := NB240_237.out; have hnc25 := NB237_240.out; have hcz26 := blk_cell BK240.out; have hfz26 := blk_frozen BK240.out) | ((with_reducible refine gate_dst (N := 5) rfl ?_); refine box_event ?hg (N := 5) ?hd (cs := #[.int .i64 0, .int .i64 0]) (t := 27) ?hr ?_; (case hd => rfl); (case hg => rfl); (case hr => first | (go_simp; done) | (go_simp; rfl)); intro gb241 hg w27 hbox hb; have BK241 := Aside0.mk (hbox); have GW241 := gs_ hg; have GE241 := gs_ hg; replace HB := hbs_ hb; have NB237_241 := Aside0.mk ((by rw [hg]; exact Nat.ne_of_lt (blk_lt (g := gb237) (o := .cells #[.slice (some ad239) l0_0.length c0_0] 39 (0, 0)) (bk_ BK237)) : gb237 ≠ gb241)); have NB241_237 := Aside0.mk ((by rw [hg]; exact Nat.ne_of_gt (blk_lt (g := gb237) (o := .cells #[.slice (some ad239) l0_0.length c0_0] 39 (0, 0)) (bk_ BK237)) : gb241 ≠ gb237)); replace BK237 := Aside0.mk (blk_below (g := gb237) (o := .cells #[.slice (some ad239) l0_0.length c0_0] 39 (0, 0)) (bk_ BK237) hb); have NB240_241 := Aside0.mk ((by rw [hg]; exact Nat.ne_of_lt (blk_lt (g := gb240) (o := .cells #[.int .i64 ((rd_T105 l0_0 x15_1).f0), .int .i64 ((rd_T105 l0_0 x15_1).f1.f0), .int .i64 ((rd_T105 l0_0 x15_1).f1.f1), .int .i64 ((rd_T105 l0_0 x15_1).f2), .int .i64 ((rd_T105 l0_0 x15_1).f3)] 105 (0, 0)) (bk_ BK240)) : gb240 ≠ gb241)); have NB241_240 := Aside0.mk ((by rw [hg]; exact Nat.ne_of_gt (blk_lt (g := gb240) (o := .cells #[.int .i64 ((rd_T105 l0_0 x15_1).f0), .int .i64 ((rd_T105 l0_0 x15_1).f1.f0), .int .i64 ((rd_T105 l0_0 x15_1).f1.f1), .int .i64 ((rd_T105 l0_0 x15_1).f2), .int .i64 ((rd_T105 l0_0 x15_1).f3)] 105 (0, 0)) (bk_ BK240)) : gb241 ≠ gb240)); replace BK240 := Aside0.mk (blk_below (g := gb240) (o := .cells #[.int .i64 ((rd_T105 l0_0 x15_1).f0), .int .i64 ((rd_T105 l0_0 x15_1).f1.f0), .int .i64 ((rd_T105 l0_0 x15_1).f1.f1), .int .i64 ((rd_T105 l0_0 x15_1).f2), .int .i64 ((rd_T105 l0_0 x15_1).f3)] 105 (0, 0)) (bk_ BK240) hb); clear hb hbox hg; have hnb28 := NB241_237.out; have hnc28 := NB237_241.out; have hnb29 := NB241_240.out; have hnc29 := NB240_241.out; have hcz30 := blk_cell BK241.out; have hfz30 := blk_frozen BK241.out; have hcz31 := blk_cell BK240.out; have hfz31 := blk_frozen BK240.out) | ((with_reducible refine gate_callee (f := 80) rfl ?_); refine goesC_ (some 27) Try.func80 #[.agg #[.int .i64 ((rd_T105 l0_0 x15_1).f1.f0), .int .i64 ((rd_T105 l0_0 x15_1).f1.f1)]] ?_; (with_reducible refine (impl_RoleOk.calls ((rd_T105 l0_0 x15_1).f1.f0) ((rd_T105 l0_0 x15_1).f1.f1) true _ A10.out).mono ?_); rintro e w32 ⟨rfl, hb⟩; refine ⟨_, rfl, ?_⟩; replace BK237 := Aside0.mk (blk_below (g := gb237) (o := .cells #[.slice (some ad239) l0_0.length c0_0] 39 (0, 0)) (bk_ BK237) hb); replace BK240 := Aside0.mk (blk_below (g := gb240) (o := .cells #[.int .i64 ((rd_T105 l0_0 x15_1).f0), .int .i64 ((rd_T105 l0_0 x15_1).f1.f0), .int .i64 ((rd_T105 l0_0 x15_1).f1.f1), .int .i64 ((rd_T105 l0_0 x15_1).f2), .int .i64 ((rd_T105 l0_0 x15_1).f3)] 105 (0, 0)) (bk_ BK240) hb); replace BK241 := Aside0.mk (blk_below (g := gb241) (o := .cells #[.int .i64 0, .int .i64 0] 27 (0, 0)) (bk_ BK241) hb); replace HB := hbs_ hb; clear hb; have hcz33 := blk_cell BK240.out; have hfz33 := blk_frozen BK240.out))
           go_ret
           exact ⟨eq_, bl_⟩
         ·rw [if_neg c12] at H
          have c12b0 : (((rd_T105 l0_0 x15_1).f2) == 0) = false := beq_eq_false_iff_ne.mpr c12
          have c12b1 : (((rd_T105 l0_0 x15_1).f2) != 0) = true := bne_iff_ne.mpr c12
          obtain rfl := Option.some.inj H
          have p239 : 0 ≤ (x15_1 : Int) := of_decide_eq_true (by first | (with_reducible assumption) | assumption)
          have q239 : x15_1 < (l0_0.length : Int) := of_decide_eq_true (by first | (with_reducible assumption) | assumption)
          obtain ⟨ad239, e239, hx239_0, hx239_1, hx239_2, hx239_3, hx239_4⟩ := at_T105 (Kd.C_below HR0_0.out HB.out) x15_1 p239 q239
          cases e239
          replace p239 := eq_true p239
          replace q239 := eq_true q239
          go_wp2_with (first | ((with_reducible refine gate_dst (N := 4) rfl ?_); refine box_event ?hg (N := 4) ?hd (cs := #[.int .i64 0, .int .i64 0, .int .i64 0, .int .i64 0, .int .i64 0]) (t := 105) ?hr ?_; (case hd => rfl); (case hg => rfl); (case hr => first | (go_simp; done) | (go_simp; rfl)); intro gb240 hg w34 hbox hb; have BK240 := Aside0.mk (hbox); have GW240 := gs_ hg; have GE240 := gs_ hg; replace HB := hbs_ hb; have NB237_240 := Aside0.mk ((by rw [hg]; exact Nat.ne_of_lt (blk_lt (g := gb237) (o := .cells #[.slice (some ad239) l0_0.length c0_0] 39 (0, 0)) (bk_ BK237)) : gb237 ≠ gb240)); have NB240_237 := Aside0.mk ((by rw [hg]; exact Nat.ne_of_gt (blk_lt (g := gb237) (o := .cells #[.slice (some ad239) l0_0.length c0_0] 39 (0, 0)) (bk_ BK237)) : gb240 ≠ gb237)); replace BK237 := bkb_ BK237 hb; clear hb hbox hg; have hnb35 := NB240_237.out; have hnc35 := NB237_240.out; have hcz36 := blk_cell BK240.out; have hfz36 := blk_frozen BK240.out) | ((with_reducible refine gate_dst (N := 5) rfl ?_); refine box_event ?hg (N := 5) ?hd (cs := #[.int .i64 0, .int .i64 0]) (t := 27) ?hr ?_; (case hd => rfl); (case hg => rfl); (case hr => first | (go_simp; done) | (go_simp; rfl)); intro gb241 hg w37 hbox hb; have BK241 := Aside0.mk (hbox); have GW241 := gs_ hg; have GE241 := gs_ hg; replace HB := hbs_ hb; have NB237_241 := Aside0.mk ((by rw [hg]; exact Nat.ne_of_lt (blk_lt (g := gb237) (o := .cells #[.slice (some ad239) l0_0.length c0_0] 39 (0, 0)) (bk_ BK237)) : gb237 ≠ gb241)); have NB241_237 := Aside0.mk ((by rw [hg]; exact Nat.ne_of_gt (blk_lt (g := gb237) (o := .cells #[.slice (some ad239) l0_0.length c0_0] 39 (0, 0)) (bk_ BK237)) : gb241 ≠ gb237)); replace BK237 := Aside0.mk (blk_below (g := gb237) (o := .cells #[.slice (some ad239) l0_0.length c0_0] 39 (0, 0)) (bk_ BK237) hb); have NB240_241 := Aside0.mk ((by rw [hg]; exact Nat.ne_of_lt (blk_lt (g := gb240) (o := .cells #[.int .i64 ((rd_T105 l0_0 x15_1).f0), .int .i64 ((rd_T105 l0_0 x15_1).f1.f0), .int .i64 ((rd_T105 l0_0 x15_1).f1.f1), .int .i64 ((rd_T105 l0_0 x15_1).f2), .int .i64 ((rd_T105 l0_0 x15_1).f3)] 105 (0, 0)) (bk_ BK240)) : gb240 ≠ gb241)); have NB241_240 := Aside0.mk ((by rw [hg]; exact Nat.ne_of_gt (blk_lt (g := gb240) (o := .cells #[.int .i64 ((rd_T105 l0_0 x15_1).f0), .int .i64 ((rd_T105 l0_0 x15_1).f1.f0), .int .i64 ((rd_T105 l0_0 x15_1).f1.f1), .int .i64 ((rd_T105 l0_0 x15_1).f2), .int .i64 ((rd_T105 l0_0 x15_1).f3)] 105 (0, 0)) (bk_ BK240)) : gb241 ≠ gb240)); replace BK240 := Aside0.mk (blk_below (g := gb240) (o := .cells #[.int .i64 ((rd_T105 l0_0 x15_1).f0), .int .i64 ((rd_T105 l0_0 x15_1).f1.f0), .int .i64 ((rd_T105 l0_0 x15_1).f1.f1), .int .i64 ((rd_T105 l0_0 x15_1).f2), .int .i64 ((rd_T105 l0_0 x15_1).f3)] 105 (0, 0)) (bk_ BK240) hb); clear hb hbox hg; have hnb38 := NB241_237.out; have hnc38 := NB237_241.out; have hnb39 := NB241_240.out; have hnc39 := NB240_241.out; have hcz40 := blk_cell BK241.out; have hfz40 := blk_frozen BK241.out; have hcz41 := blk_cell BK240.out; have hfz41 := blk_frozen BK240.out) | ((with_reducible refine gate_callee (f := 80) rfl ?_); refine goesC_ (some 27) Try.func80 #[.agg #[.int .i64 ((rd_T105 l0_0 x15_1).f1.f0), .int .i64 ((rd_T105 l0_0 x15_1).f1.f1)]] ?_; (with_reducible refine (impl_RoleOk.calls ((rd_T105 l0_0 x15_1).f1.f0) ((rd_T105 l0_0 x15_1).f1.f1) true _ A10.out).mono ?_); rintro e w42 ⟨rfl, hb⟩; refine ⟨_, rfl, ?_⟩; replace BK237 := Aside0.mk (blk_below (g := gb237) (o := .cells #[.slice (some ad239) l0_0.length c0_0] 39 (0, 0)) (bk_ BK237) hb); replace BK240 := Aside0.mk (blk_below (g := gb240) (o := .cells #[.int .i64 ((rd_T105 l0_0 x15_1).f0), .int .i64 ((rd_T105 l0_0 x15_1).f1.f0), .int .i64 ((rd_T105 l0_0 x15_1).f1.f1), .int .i64 ((rd_T105 l0_0 x15_1).f2), .int .i64 ((rd_T105 l0_0 x15_1).f3)] 105 (0, 0)) (bk_ BK240) hb); replace BK241 := Aside0.mk (blk_below (g := gb241) (o := .cells #[.int .i64 0, .int .i64 0] 27 (0, 0)) (bk_ BK241) hb); replace HB := hbs_ hb; clear hb; have hcz43 := blk_cell BK240.out; have hfz43 := blk_frozen BK240.out))
          go_ret
          exact ⟨eq_, bl_⟩
        ·replace c11 := Bool.eq_false_iff.mpr c11
         subst c11
         replace H := ite_f_ H
         obtain rfl := Option.some.inj H
         have p239 : 0 ≤ (x15_1 : Int) := of_decide_eq_true (by first | (with_reducible assumption) | assumption)
         have q239 : x15_1 < (l0_0.length : Int) := of_decide_eq_true (by first | (with_reducible assumption) | assumption)
         obtain ⟨ad239, e239, hx239_0, hx239_1, hx239_2, hx239_3, hx239_4⟩ := at_T105 (Kd.C_below HR0_0.out HB.out) x15_1 p239 q239
         cases e239
         replace p239 := eq_true p239
         replace q239 := eq_true q239
         go_wp2_with (first | ((with_reducible refine gate_dst (N := 4) rfl ?_); refine box_event ?hg (N := 4) ?hd (cs := #[.int .i64 0, .int .i64 0, .int .i64 0, .int .i64 0, .int .i64 0]) (t := 105) ?hr ?_; (case hd => rfl); (case hg => rfl); (case hr => first | (go_simp; done) | (go_simp; rfl)); intro gb240 hg w44 hbox hb; have BK240 := Aside0.mk (hbox); have GW240 := gs_ hg; have GE240 := gs_ hg; replace HB := hbs_ hb; have NB237_240 := Aside0.mk ((by rw [hg]; exact Nat.ne_of_lt (blk_lt (g := gb237) (o := .cells #[.slice (some ad239) l0_0.length c0_0] 39 (0, 0)) (bk_ BK237)) : gb237 ≠ gb240)); have NB240_237 := Aside0.mk ((by rw [hg]; exact Nat.ne_of_gt (blk_lt (g := gb237) (o := .cells #[.slice (some ad239) l0_0.length c0_0] 39 (0, 0)) (bk_ BK237)) : gb240 ≠ gb237)); replace BK237 := bkb_ BK237 hb; clear hb hbox hg; have hnb45 := NB240_237.out; have hnc45 := NB237_240.out; have hcz46 := blk_cell BK240.out; have hfz46 := blk_frozen BK240.out) | ((with_reducible refine gate_dst (N := 5) rfl ?_); refine box_event ?hg (N := 5) ?hd (cs := #[.int .i64 0, .int .i64 0]) (t := 27) ?hr ?_; (case hd => rfl); (case hg => rfl); (case hr => first | (go_simp; done) | (go_simp; rfl)); intro gb241 hg w47 hbox hb; have BK241 := Aside0.mk (hbox); have GW241 := gs_ hg; have GE241 := gs_ hg; replace HB := hbs_ hb; have NB237_241 := Aside0.mk ((by rw [hg]; exact Nat.ne_of_lt (blk_lt (g := gb237) (o := .cells #[.slice (some ad239) l0_0.length c0_0] 39 (0, 0)) (bk_ BK237)) : gb237 ≠ gb241)); have NB241_237 := Aside0.mk ((by rw [hg]; exact Nat.ne_of_gt (blk_lt (g := gb237) (o := .cells #[.slice (some ad239) l0_0.length c0_0] 39 (0, 0)) (bk_ BK237)) : gb241 ≠ gb237)); replace BK237 := Aside0.mk (blk_below (g := gb237) (o := .cells #[.slice (some ad239) l0_0.length c0_0] 39 (0, 0)) (bk_ BK237) hb); have NB240_241 := Aside0.mk ((by rw [hg]; exact Nat.ne_of_lt (blk_lt (g := gb240) (o := .cells #[.int .i64 ((rd_T105 l0_0 x15_1).f0), .int .i64 ((rd_T105 l0_0 x15_1).f1.f0), .int .i64 ((rd_T105 l0_0 x15_1).f1.f1), .int .i64 ((rd_T105 l0_0 x15_1).f2), .int .i64 ((rd_T105 l0_0 x15_1).f3)] 105 (0, 0)) (bk_ BK240)) : gb240 ≠ gb241)); have NB241_240 := Aside0.mk ((by rw [hg]; exact Nat.ne_of_gt (blk_lt (g := gb240) (o := .cells #[.int .i64 ((rd_T105 l0_0 x15_1).f0), .int .i64 ((rd_T105 l0_0 x15_1).f1.f0), .int .i64 ((rd_T105 l0_0 x15_1).f1.f1), .int .i64 ((rd_T105 l0_0 x15_1).f2), .int .i64 ((rd_T105 l0_0 x15_1).f3)] 105 (0, 0)) (bk_ BK240)) : gb241 ≠ gb240)); replace BK240 := Aside0.mk (blk_below (g := gb240) (o := .cells #[.int .i64 ((rd_T105 l0_0 x15_1).f0), .int .i64 ((rd_T105 l0_0 x15_1).f1.f0), .int .i64 ((rd_T105 l0_0 x15_1).f1.f1), .int .i64 ((rd_T105 l0_0 x15_1).f2), .int .i64 ((rd_T105 l0_0 x15_1).f3)] 105 (0, 0)) (bk_ BK240) hb); clear hb hbox hg; have hnb48 := NB241_237.out; have hnc48 := NB237_241.out; have hnb49 := NB241_240.out; have hnc49 := NB240_241.out; have hcz50 := blk_cell BK241.out; have hfz50 := blk_frozen BK241.out; have hcz51 := blk_cell BK240.out; have hfz51 := blk_frozen BK240.out) | ((with_reducible refine gate_callee (f := 80) rfl ?_); refine goesC_ (some 27) Try.func80 #[.agg #[.int .i64 ((rd_T105 l0_0 x15_1).f1.f0), .int .i64 ((rd_T105 l0_0 x15_1).f1.f1)]] ?_; (with_reducible refine (impl_RoleOk.calls ((rd_T105 l0_0 x15_1).f1.f0) ((rd_T105 l0_0 x15_1).f1.f1) false _ A10.out).mono ?_); rintro e w52 ⟨rfl, hb⟩; refine ⟨_, rfl, ?_⟩; replace BK237 := Aside0.mk (blk_below (g := gb237) (o := .cells #[.slice (some ad239) l0_0.length c0_0] 39 (0, 0)) (bk_ BK237) hb); replace BK240 := Aside0.mk (blk_below (g := gb240) (o := .cells #[.int .i64 ((rd_T105 l0_0 x15_1).f0), .int .i64 ((rd_T105 l0_0 x15_1).f1.f0), .int .i64 ((rd_T105 l0_0 x15_1).f1.f1), .int .i64 ((rd_T105 l0_0 x15_1).f2), .int .i64 ((rd_T105 l0_0 x15_1).f3)] 105 (0, 0)) (bk_ BK240) hb); replace BK241 := Aside0.mk (blk_below (g := gb241) (o := .cells #[.int .i64 0, .int .i64 0] 27 (0, 0)) (bk_ BK241) hb); replace HB := hbs_ hb; clear hb))
         go_ret
         exact ⟨eq_, bl_⟩
       ·rw [if_neg c9] at H
        have c9b0 : (((rd_T105 l0_0 x15_1).f0) == 1) = false := beq_eq_false_iff_ne.mpr c9
        have c9b1 : (((rd_T105 l0_0 x15_1).f0) != 1) = true := bne_iff_ne.mpr c9
        have HC53 := Aside0.mk H
        clear H
        have p239 : 0 ≤ (x15_1 : Int) := of_decide_eq_true (by first | (with_reducible assumption) | assumption)
        have q239 : x15_1 < (l0_0.length : Int) := of_decide_eq_true (by first | (with_reducible assumption) | assumption)
        obtain ⟨ad239, e239, hx239_0, hx239_1, hx239_2, hx239_3, hx239_4⟩ := at_T105 (Kd.C_below HR0_0.out HB.out) x15_1 p239 q239
        cases e239
        replace p239 := eq_true p239
        replace q239 := eq_true q239
        go_upto_if 38 with (first | ((with_reducible refine gate_dst (N := 4) rfl ?_); refine box_event ?hg (N := 4) ?hd (cs := #[.int .i64 0, .int .i64 0, .int .i64 0, .int .i64 0, .int .i64 0]) (t := 105) ?hr ?_; (case hd => rfl); (case hg => rfl); (case hr => first | (go_simp; done) | (go_simp; rfl)); intro gb240 hg w54 hbox hb; have BK240 := Aside0.mk (hbox); have GW240 := gs_ hg; have GE240 := gs_ hg; replace HB := hbs_ hb; have NB237_240 := Aside0.mk ((by rw [hg]; exact Nat.ne_of_lt (blk_lt (g := gb237) (o := .cells #[.slice (some ad239) l0_0.length c0_0] 39 (0, 0)) (bk_ BK237)) : gb237 ≠ gb240)); have NB240_237 := Aside0.mk ((by rw [hg]; exact Nat.ne_of_gt (blk_lt (g := gb237) (o := .cells #[.slice (some ad239) l0_0.length c0_0] 39 (0, 0)) (bk_ BK237)) : gb240 ≠ gb237)); replace BK237 := bkb_ BK237 hb; clear hb hbox hg; have hnb55 := NB240_237.out; have hnc55 := NB237_240.out; have hcz56 := blk_cell BK240.out; have hfz56 := blk_frozen BK240.out) | ((with_reducible refine gate_dst (N := 5) rfl ?_); refine box_event ?hg (N := 5) ?hd (cs := #[.int .i64 0, .int .i64 0]) (t := 27) ?hr ?_; (case hd => rfl); (case hg => rfl); (case hr => first | (go_simp; done) | (go_simp; rfl)); intro gb241 hg w57 hbox hb; have BK241 := Aside0.mk (hbox); have GW241 := gs_ hg; have GE241 := gs_ hg; replace HB := hbs_ hb; have NB237_241 := Aside0.mk ((by rw [hg]; exact Nat.ne_of_lt (blk_lt (g := gb237) (o := .cells #[.slice (some ad239) l0_0.length c0_0] 39 (0, 0)) (bk_ BK237)) : gb237 ≠ gb241)); have NB241_237 := Aside0.mk ((by rw [hg]; exact Nat.ne_of_gt (blk_lt (g := gb237) (o := .cells #[.slice (some ad239) l0_0.length c0_0] 39 (0, 0)) (bk_ BK237)) : gb241 ≠ gb237)); replace BK237 := Aside0.mk (blk_below (g := gb237) (o := .cells #[.slice (some ad239) l0_0.length c0_0] 39 (0, 0)) (bk_ BK237) hb); have NB240_241 := Aside0.mk ((by rw [hg]; exact Nat.ne_of_lt (blk_lt (g := gb240) (o := .cells #[.int .i64 ((rd_T105 l0_0 x15_1).f0), .int .i64 ((rd_T105 l0_0 x15_1).f1.f0), .int .i64 ((rd_T105 l0_0 x15_1).f1.f1), .int .i64 ((rd_T105 l0_0 x15_1).f2), .int .i64 ((rd_T105 l0_0 x15_1).f3)] 105 (0, 0)) (bk_ BK240)) : gb240 ≠ gb241)); have NB241_240 := Aside0.mk ((by rw [hg]; exact Nat.ne_of_gt (blk_lt (g := gb240) (o := .cells #[.int .i64 ((rd_T105 l0_0 x15_1).f0), .int .i64 ((rd_T105 l0_0 x15_1).f1.f0), .int .i64 ((rd_T105 l0_0 x15_1).f1.f1), .int .i64 ((rd_T105 l0_0 x15_1).f2), .int .i64 ((rd_T105 l0_0 x15_1).f3)] 105 (0, 0)) (bk_ BK240)) : gb241 ≠ gb240)); replace BK240 := Aside0.mk (blk_below (g := gb240) (o := .cells #[.int .i64 ((rd_T105 l0_0 x15_1).f0), .int .i64 ((rd_T105 l0_0 x15_1).f1.f0), .int .i64 ((rd_T105 l0_0 x15_1).f1.f1), .int .i64 ((rd_T105 l0_0 x15_1).f2), .int .i64 ((rd_T105 l0_0 x15_1).f3)] 105 (0, 0)) (bk_ BK240) hb); clear hb hbox hg; have hnb58 := NB241_237.out; have hnc58 := NB237_241.out; have hnb59 := NB241_240.out; have hnc59 := NB240_241.out; have hcz60 := blk_cell BK241.out; have hfz60 := blk_frozen BK241.out; have hcz61 := blk_cell BK240.out; have hfz61 := blk_frozen BK240.out))
        (try simp only [Act.put, List.setIfInBounds_toArray, List.set_cons_zero, List.set_cons_succ])
        go_cut [38] (fun v38 wc => ∃ (kq : Nat) (x38_52 : Bool), v38 = .bool x38_52 ∧ Aside0 (impl_PolicyOk.j1 kq x15_1 false l0_0 (l0_0.length : Int) x15_1 ((rd_T105 l0_0 x15_1).f0) x38_52 ((rd_T105 l0_0 x15_1).f0) ((rd_T105 l0_0 x15_1).f1.f0) ((rd_T105 l0_0 x15_1).f1.f1) ((rd_T105 l0_0 x15_1).f2) ((rd_T105 l0_0 x15_1).f3) 0 0 = some r) ∧ Aside0 (kq ≤ k1) ∧ Aside0 (wc.heap[gb237]? = some (.cells #[(.slice (some ad239) l0_0.length c0_0)] 39 (0, 0))) ∧ Aside0 (wc.heap[gb240]? = some (.cells #[.int .i64 ((rd_T105 l0_0 x15_1).f0), .int .i64 ((rd_T105 l0_0 x15_1).f1.f0), .int .i64 ((rd_T105 l0_0 x15_1).f1.f1), .int .i64 ((rd_T105 l0_0 x15_1).f2), .int .i64 ((rd_T105 l0_0 x15_1).f3)] 105 (0, 0))) ∧ Aside0 (wc.heap[gb241]? = some (.cells #[.int .i64 0, .int .i64 0] 27 (0, 0))) ∧ Aside0 (Below w.heap.size w wc))
        case first =>
         have H := HC53.out
         clear HC53
         by_cases c62 : ((rd_T105 l0_0 x15_1).f0) = 2
         ·rw [if_pos c62] at H
          have c62b0 : (((rd_T105 l0_0 x15_1).f0) == 2) = true := beq_iff_eq.mpr c62
          have c62b1 : (((rd_T105 l0_0 x15_1).f0) != 2) = false := bne_eq_false_iff_eq.mpr c62
          clear c62
          (first | rw [c62b0] | (simp only [i64_w, i32_w]; rw [c62b0]) | skip)
          have H' := Aside0.mk H
          clear H
          go_wp2
          go_meet
          case rel => exact ⟨_, ((((rd_T105 l0_0 x15_1).f0) == 2)), (by first | rfl | (simp; done) | (simp [*]; done)), H', ⟨by have := HK1.out; first | omega | exact Nat.le_refl _⟩, ⟨bk_ BK237⟩, ⟨bk_ BK240⟩, ⟨bk_ BK241⟩, ⟨bl_⟩⟩
         ·rw [if_neg c62] at H
          have c62b0 : (((rd_T105 l0_0 x15_1).f0) == 2) = false := beq_eq_false_iff_ne.mpr c62
          have c62b1 : (((rd_T105 l0_0 x15_1).f0) != 2) = true := bne_iff_ne.mpr c62
          (first | rw [c62b0] | (simp only [i64_w, i32_w]; rw [c62b0]) | skip)
          have H' := Aside0.mk H
          clear H
          go_wp2
          go_meet
          case rel => exact ⟨_, ((((rd_T105 l0_0 x15_1).f0) == 3)), (by first | rfl | (simp; done) | (simp [*]; done)), H', ⟨by have := HK1.out; first | omega | exact Nat.le_refl _⟩, ⟨bk_ BK237⟩, ⟨bk_ BK240⟩, ⟨bk_ BK241⟩, ⟨bl_⟩⟩
        case rest =>
         clear HC53
         try clear c1
         try clear c2
         try clear p2
         try clear q2
         try clear hx2
         try clear c3
         try clear c4
         try clear c5
         try clear c6
         try clear c6b0
         try clear p6
         try clear c7
         try clear c7b0
         try clear c8
         try clear c8b0
         try clear c9
         try clear c9b0
         try clear c9b1
         try clear c11
         try clear c12
         try clear c12b0
         try clear c12b1
         try clear c13
         try clear c13b0
         try clear c13b1
         try clear c15
         try clear c18
         try clear c19
         try clear c21
         try clear p23
         try clear q23
         try clear hx23
         try clear c25
         try clear c28
         try clear c29
         try clear c35
         try clear c38
         try clear c39
         try clear c45
         try clear c48
         try clear c49
         try clear c55
         try clear c58
         try clear c59
         try clear c62
         try clear c62b0
         try clear c62b1
         try clear hcz16
         try clear hcz20
         try clear hcz21
         try clear hcz23
         try clear hcz26
         try clear hcz30
         try clear hcz31
         try clear hcz33
         try clear hcz36
         try clear hcz40
         try clear hcz41
         try clear hcz43
         try clear hcz46
         try clear hcz50
         try clear hcz51
         try clear hcz56
         try clear hcz5
         try clear hcz60
         try clear hcz61
         try clear hfz16
         try clear hfz20
         try clear hfz21
         try clear hfz23
         try clear hfz26
         try clear hfz30
         try clear hfz31
         try clear hfz33
         try clear hfz36
         try clear hfz40
         try clear hfz41
         try clear hfz43
         try clear hfz46
         try clear hfz50
         try clear hfz51
         try clear hfz56
         try clear hfz5
         try clear hfz60
         try clear hfz61
         try clear hx239_0
         try clear hx239_1
         try clear hx239_2
         try clear hx239_3
         try clear hx239_4
         try clear p2
         try clear p239
         try clear q239
         obtain ⟨kq, x38_52, rfl, HA, HJ52, BK237, BK240, BK241, HB⟩ := hcut
         cases kq with
         | zero => exact absurd HA.out (by simp [impl_PolicyOk.j1])
         | succ kj52 =>
          have H := HA.out
          clear HA
          simp only [impl_PolicyOk.j1] at H
          by_cases c63 : x38_52 = true
          ·subst c63
           replace H := ite_t_ H
           by_cases c64 : (((rd_T105 l0_0 x15_1).f1.f0) == 0 && (((rd_T105 l0_0 x15_1).f1.f1) == 0)) = true
           ·rw [if_pos c64] at H
            have c64b0 : (((rd_T105 l0_0 x15_1).f1.f0) == 0 && (((rd_T105 l0_0 x15_1).f1.f1) == 0)) = true := c64
            (try (have c64b1 : decide (((rd_T105 l0_0 x15_1).f1.f0) = 0 && (((rd_T105 l0_0 x15_1).f1.f1) == 0)) = true := by simpa using c64))
            (try (have c64b2 : (((rd_T105 l0_0 x15_1).f1.f0) == 0 && (((rd_T105 l0_0 x15_1).f1.f1) == 0)) = true := by simpa using c64))
            clear c64
            obtain ⟨t243, A65, H⟩ := bindE_ H
            by_cases c66 : t243 = true
            ·subst c66
             replace H := ite_t_ H
             obtain ⟨t244, A67, H⟩ := bindE_ H
             by_cases c68 : t244 = true
             ·subst c68
              replace H := ite_t_ H
              have H' := Aside0.mk H
              clear H
              have hnb69 := NB240_237.out
              have hnc69 := NB237_240.out
              have hnb70 := NB240_241.out
              have hnc70 := NB241_240.out
              have hcz71 := blk_cell BK240.out
              have hfz71 := blk_frozen BK240.out
              have hnb72 := NB241_237.out
              have hnc72 := NB237_241.out
              have hcz73 := blk_cell BK241.out
              have hfz73 := blk_frozen BK241.out
              go_wp2_with (first | (go_at_call 79; (with_reducible refine (impl_in.calls ((rd_T105 l0_0 x15_1).f2) 0 (wrap64 (x15_1 - 1)) true _ A65.out).mono ?_); rintro e w' ⟨rfl, ⟨nd, rfl⟩⟩) | (go_at_call 79; (with_reducible refine (impl_in.calls ((rd_T105 l0_0 x15_1).f3) 0 (wrap64 (x15_1 - 1)) true _ A67.out).mono ?_); rintro e w' ⟨rfl, ⟨nd, rfl⟩⟩))
              go_roundg kj52
              case measure => have := HK1.out; have := HJ52.out; omega
              case rel => exact ⟨(wrap64 (x15_1 + 1)), (by first | rfl | (simp; done) | (simp [*]; done)), H', ⟨by have := HK1.out; have := HJ52.out; omega⟩, ⟨bk_ BK237⟩, ⟨bl_⟩⟩
             ·replace c68 := Bool.eq_false_iff.mpr c68
              subst c68
              replace H := ite_f_ H
              obtain rfl := Option.some.inj H
              have hnb74 := NB240_237.out
              have hnc74 := NB237_240.out
              have hnb75 := NB240_241.out
              have hnc75 := NB241_240.out
              have hcz76 := blk_cell BK240.out
              have hfz76 := blk_frozen BK240.out
              have hnb77 := NB241_237.out
              have hnc77 := NB237_241.out
              have hcz78 := blk_cell BK241.out
              have hfz78 := blk_frozen BK241.out
              go_wp2_with (first | (go_at_call 79; (with_reducible refine (impl_in.calls ((rd_T105 l0_0 x15_1).f2) 0 (wrap64 (x15_1 - 1)) true _ A65.out).mono ?_); rintro e w' ⟨rfl, ⟨nd, rfl⟩⟩) | (go_at_call 79; (with_reducible refine (impl_in.calls ((rd_T105 l0_0 x15_1).f3) 0 (wrap64 (x15_1 - 1)) false _ A67.out).mono ?_); rintro e w' ⟨rfl, ⟨nd, rfl⟩⟩))
              go_ret
              exact ⟨eq_, bl_⟩
            ·replace c66 := Bool.eq_false_iff.mpr c66
             subst c66
             replace H := ite_f_ H
             obtain rfl := Option.some.inj H
             have hnb79 := NB240_237.out
             have hnc79 := NB237_240.out
             have hnb80 := NB240_241.out
             have hnc80 := NB241_240.out
             have hcz81 := blk_cell BK240.out
             have hfz81 := blk_frozen BK240.out
             have hnb82 := NB241_237.out
             have hnc82 := NB237_241.out
             have hcz83 := blk_cell BK241.out
             have hfz83 := blk_frozen BK241.out
             go_wp2_with (first | (go_at_call 79; (with_reducible refine (impl_in.calls ((rd_T105 l0_0 x15_1).f2) 0 (wrap64 (x15_1 - 1)) false _ A65.out).mono ?_); rintro e w' ⟨rfl, ⟨nd, rfl⟩⟩))
             go_ret
             exact ⟨eq_, bl_⟩
           ·rw [if_neg c64] at H
            have c64b0 : (((rd_T105 l0_0 x15_1).f1.f0) == 0 && (((rd_T105 l0_0 x15_1).f1.f1) == 0)) = false := by simpa using c64
            (try (have c64b1 : decide (((rd_T105 l0_0 x15_1).f1.f0) = 0 && (((rd_T105 l0_0 x15_1).f1.f1) == 0)) = false := by simpa using c64))
            (try (have c64b2 : (((rd_T105 l0_0 x15_1).f1.f0) == 0 && (((rd_T105 l0_0 x15_1).f1.f1) == 0)) = false := by simpa using c64))
            (try (have c64b3 : ¬ (((rd_T105 l0_0 x15_1).f1.f0) = 0 && (((rd_T105 l0_0 x15_1).f1.f1) == 0)) := by simpa using c64))
            clear c64
            obtain rfl := Option.some.inj H
            have hnb84 := NB240_237.out
            have hnc84 := NB237_240.out
            have hnb85 := NB240_241.out
            have hnc85 := NB241_240.out
            have hcz86 := blk_cell BK240.out
            have hfz86 := blk_frozen BK240.out
            have hnb87 := NB241_237.out
            have hnc87 := NB237_241.out
            have hcz88 := blk_cell BK241.out
            have hfz88 := blk_frozen BK241.out
            go_wp2
            go_ret
            exact ⟨eq_, bl_⟩
          ·replace c63 := Bool.eq_false_iff.mpr c63
           subst c63
           replace H := ite_f_ H
           by_cases c89 : ((rd_T105 l0_0 x15_1).f0) = 4
           ·rw [if_pos c89] at H
            have c89b0 : (((rd_T105 l0_0 x15_1).f0) == 4) = true := beq_iff_eq.mpr c89
            have c89b1 : (((rd_T105 l0_0 x15_1).f0) != 4) = false := bne_eq_false_iff_eq.mpr c89
            clear c89
            by_cases c90 : (((rd_T105 l0_0 x15_1).f1.f0) == 0 && (((rd_T105 l0_0 x15_1).f1.f1) == 0)) = true
            ·rw [if_pos c90] at H
             have c90b0 : (((rd_T105 l0_0 x15_1).f1.f0) == 0 && (((rd_T105 l0_0 x15_1).f1.f1) == 0)) = true := c90
             (try (have c90b1 : decide (((rd_T105 l0_0 x15_1).f1.f0) = 0 && (((rd_T105 l0_0 x15_1).f1.f1) == 0)) = true := by simpa using c90))
             (try (have c90b2 : (((rd_T105 l0_0 x15_1).f1.f0) == 0 && (((rd_T105 l0_0 x15_1).f1.f1) == 0)) = true := by simpa using c90))
             clear c90
             obtain ⟨t245, A91, H⟩ := bindE_ H
             by_cases c92 : t245 = true
             ·subst c92
              replace H := ite_t_ H
              by_cases c93 : ((rd_T105 l0_0 x15_1).f3) = 0
              ·rw [if_pos c93] at H
               have c93b0 : (((rd_T105 l0_0 x15_1).f3) == 0) = true := beq_iff_eq.mpr c93
               have c93b1 : (((rd_T105 l0_0 x15_1).f3) != 0) = false := bne_eq_false_iff_eq.mpr c93
               clear c93
               have H' := Aside0.mk H
               clear H
               have hnb94 := NB240_237.out
               have hnc94 := NB237_240.out
               have hnb95 := NB240_241.out
               have hnc95 := NB241_240.out
               have hcz96 := blk_cell BK240.out
               have hfz96 := blk_frozen BK240.out
               have hnb97 := NB241_237.out
               have hnc97 := NB237_241.out
               have hcz98 := blk_cell BK241.out
               have hfz98 := blk_frozen BK241.out
               go_wp2_with (first | (go_at_call 79; (with_reducible refine (impl_in.calls ((rd_T105 l0_0 x15_1).f2) 0 (wrap64 (x15_1 - 1)) true _ A91.out).mono ?_); rintro e w' ⟨rfl, ⟨nd, rfl⟩⟩))
               go_roundg kj52
               case measure => have := HK1.out; have := HJ52.out; omega
               case rel => exact ⟨(wrap64 (x15_1 + 1)), (by first | rfl | (simp; done) | (simp [*]; done)), H', ⟨by have := HK1.out; have := HJ52.out; omega⟩, ⟨bk_ BK237⟩, ⟨bl_⟩⟩
              ·rw [if_neg c93] at H
               have c93b0 : (((rd_T105 l0_0 x15_1).f3) == 0) = false := beq_eq_false_iff_ne.mpr c93
               have c93b1 : (((rd_T105 l0_0 x15_1).f3) != 0) = true := bne_iff_ne.mpr c93
               obtain rfl := Option.some.inj H
               have hnb99 := NB240_237.out
               have hnc99 := NB237_240.out
               have hnb100 := NB240_241.out
               have hnc100 := NB241_240.out
               have hcz101 := blk_cell BK240.out
               have hfz101 := blk_frozen BK240.out
               have hnb102 := NB241_237.out
               have hnc102 := NB237_241.out
               have hcz103 := blk_cell BK241.out
               have hfz103 := blk_frozen BK241.out
               go_wp2_with (first | (go_at_call 79; (with_reducible refine (impl_in.calls ((rd_T105 l0_0 x15_1).f2) 0 (wrap64 (x15_1 - 1)) true _ A91.out).mono ?_); rintro e w' ⟨rfl, ⟨nd, rfl⟩⟩))
               go_ret
               exact ⟨eq_, bl_⟩
             ·replace c92 := Bool.eq_false_iff.mpr c92
              subst c92
              replace H := ite_f_ H
              obtain rfl := Option.some.inj H
              have hnb104 := NB240_237.out
              have hnc104 := NB237_240.out
              have hnb105 := NB240_241.out
              have hnc105 := NB241_240.out
              have hcz106 := blk_cell BK240.out
              have hfz106 := blk_frozen BK240.out
              have hnb107 := NB241_237.out
              have hnc107 := NB237_241.out
              have hcz108 := blk_cell BK241.out
              have hfz108 := blk_frozen BK241.out
              go_wp2_with (first | (go_at_call 79; (with_reducible refine (impl_in.calls ((rd_T105 l0_0 x15_1).f2) 0 (wrap64 (x15_1 - 1)) false _ A91.out).mono ?_); rintro e w' ⟨rfl, ⟨nd, rfl⟩⟩))
              go_ret
              exact ⟨eq_, bl_⟩
            ·rw [if_neg c90] at H
             have c90b0 : (((rd_T105 l0_0 x15_1).f1.f0) == 0 && (((rd_T105 l0_0 x15_1).f1.f1) == 0)) = false := by simpa using c90
             (try (have c90b1 : decide (((rd_T105 l0_0 x15_1).f1.f0) = 0 && (((rd_T105 l0_0 x15_1).f1.f1) == 0)) = false := by simpa using c90))
             (try (have c90b2 : (((rd_T105 l0_0 x15_1).f1.f0) == 0 && (((rd_T105 l0_0 x15_1).f1.f1) == 0)) = false := by simpa using c90))
             (try (have c90b3 : ¬ (((rd_T105 l0_0 x15_1).f1.f0) = 0 && (((rd_T105 l0_0 x15_1).f1.f1) == 0)) := by simpa using c90))
             clear c90
             obtain rfl := Option.some.inj H
             have hnb109 := NB240_237.out
             have hnc109 := NB237_240.out
             have hnb110 := NB240_241.out
             have hnc110 := NB241_240.out
             have hcz111 := blk_cell BK240.out
             have hfz111 := blk_frozen BK240.out
             have hnb112 := NB241_237.out
             have hnc112 := NB237_241.out
             have hcz113 := blk_cell BK241.out
             have hfz113 := blk_frozen BK241.out
             go_wp2
             go_ret
             exact ⟨eq_, bl_⟩
           ·rw [if_neg c89] at H
            have c89b0 : (((rd_T105 l0_0 x15_1).f0) == 4) = false := beq_eq_false_iff_ne.mpr c89
            have c89b1 : (((rd_T105 l0_0 x15_1).f0) != 4) = true := bne_iff_ne.mpr c89
            replace H := ite_f_ H
            obtain rfl := Option.some.inj H
            go_wp2
            go_ret
            exact ⟨eq_, bl_⟩
      ·rw [if_neg c8] at H
       exact absurd H (by simp)
     ·rw [if_neg c7] at H
      exact absurd H (by simp)
    ·rw [if_neg c6] at H
     have c6b0 : decide (x15_1 < (l0_0.length : Int)) = false := decide_eq_false c6
     clear c6
     obtain rfl := Option.some.inj H
     go_wp2
     go_ret
     exact ⟨eq_, bl_⟩
 ·replace c3 := Bool.eq_false_iff.mpr c3
  subst c3
  replace H := ite_f_ H
  obtain rfl := Option.some.inj H
  go_enter Try.func21, Try.ntmps21
  go_wp2_with (first | ((with_reducible refine gate_dst (N := 1) rfl ?_); refine box_event ?hg (N := 1) ?hd (cs := #[.slice A0_0 l0_0.length c0_0]) (t := 39) ?hr ?_; (case hd => rfl); (case hg => rfl); (case hr => first | (go_simp; done) | (go_simp; rfl)); intro gb237 hg w114 hbox hb; have BK237 := Aside0.mk (hbox); have GW237 := gs_ hg; have GE237 := gs_ hg; replace HB := hbs_ hb; clear hb hbox hg; have hcz115 := blk_cell BK237.out; have hfz115 := blk_frozen BK237.out) | ((with_reducible refine gate_callee (f := 79) rfl ?_); refine goesC_ (some 10) Try.func79 #[.int .i64 (l0_0.length : Int), .int .i64 1, .int .i64 40] ?_; (with_reducible refine (impl_in.calls (l0_0.length : Int) 1 40 false _ A2.out).mono ?_); rintro e w' ⟨rfl, ⟨nd, rfl⟩⟩; refine ⟨_, rfl, ?_⟩))
  go_ret
  exact ⟨eq_, bl_⟩
def laws_eqRole.f (a0_0 : Int) (a0_1 : Int) (a1_0 : Int) (a1_1 : Int) : Option (Bool) := if a0_0 = a1_0 then (if a0_1 = a1_1 then (some true) else (some false)) else (some false)
set_option maxHeartbeats 8000000 in
set_option maxRecDepth 100000 in
theorem laws_eqRole.calls (a0_0 : Int) (a0_1 : Int) (a1_0 : Int) (a1_1 : Int) (r : Bool) (w : World) (h : laws_eqRole.f a0_0 a0_1 a1_0 a1_1 = some r) :
  Calls Try.prog 114 #[.agg #[.int .i64 a0_0, .int .i64 a0_1], .agg #[.int .i64 a1_0, .int .i64 a1_1]] w fun e w' => e = .returned (.bool r) ∧ Below w.heap.size w w' := by
 have hu27 := Try.underlying27
 have HB := Aside0.mk (Below.refl w.heap.size w)
 have H : (if a0_0 = a1_0 then (if a0_1 = a1_1 then (some true) else (some false)) else (some false)) = some r := h
 clear h
 by_cases c3 : a0_0 = a1_0
 ·rw [if_pos c3] at H
  have c3b0 : (a0_0 == a1_0) = true := beq_iff_eq.mpr c3
  have c3b1 : (a0_0 != a1_0) = false := bne_eq_false_iff_eq.mpr c3
  clear c3
  by_cases c4 : a0_1 = a1_1
  ·rw [if_pos c4] at H
   have c4b0 : (a0_1 == a1_1) = true := beq_iff_eq.mpr c4
   have c4b1 : (a0_1 != a1_1) = false := bne_eq_false_iff_eq.mpr c4
   clear c4
   obtain rfl := Option.some.inj H
   go_enter Try.func114, Try.ntmps114
   go_wp2_with (first | ((with_reducible refine gate_dst (N := 2) rfl ?_); refine box_event ?hg (N := 2) ?hd (cs := #[.int .i64 a0_0, .int .i64 a0_1]) (t := 27) ?hr ?_; (case hd => rfl); (case hg => rfl); (case hr => first | (go_simp; done) | (go_simp; rfl)); intro gb246 hg w5 hbox hb; have BK246 := Aside0.mk (hbox); have GW246 := gs_ hg; have GE246 := gs_ hg; replace HB := hbs_ hb; clear hb hbox hg) | ((with_reducible refine gate_dst (N := 3) rfl ?_); refine box_event ?hg (N := 3) ?hd (cs := #[.int .i64 a1_0, .int .i64 a1_1]) (t := 27) ?hr ?_; (case hd => rfl); (case hg => rfl); (case hr => first | (go_simp; done) | (go_simp; rfl)); intro gb247 hg w6 hbox hb; have BK247 := Aside0.mk (hbox); have GW247 := gs_ hg; have GE247 := gs_ hg; replace HB := hbs_ hb; have NB246_247 := Aside0.mk ((by rw [hg]; exact Nat.ne_of_lt (blk_lt (g := gb246) (o := .cells #[.int .i64 a0_0, .int .i64 a0_1] 27 (0, 0)) (bk_ BK246)) : gb246 ≠ gb247)); have NB247_246 := Aside0.mk ((by rw [hg]; exact Nat.ne_of_gt (blk_lt (g := gb246) (o := .cells #[.int .i64 a0_0, .int .i64 a0_1] 27 (0, 0)) (bk_ BK246)) : gb247 ≠ gb246)); replace BK246 := bkb_ BK246 hb; clear hb hbox hg; have hnb7 := NB246_247.out; have hnc7 := NB247_246.out; have hcz8 := blk_cell BK246.out; have hfz8 := blk_frozen BK246.out; have hcz9 := blk_cell BK247.out; have hfz9 := blk_frozen BK247.out))
   go_ret
   exact ⟨eq_, bl_⟩
  ·rw [if_neg c4] at H
   have c4b0 : (a0_1 == a1_1) = false := beq_eq_false_iff_ne.mpr c4
   have c4b1 : (a0_1 != a1_1) = true := bne_iff_ne.mpr c4
   obtain rfl := Option.some.inj H
   go_enter Try.func114, Try.ntmps114
   go_wp2_with (first | ((with_reducible refine gate_dst (N := 2) rfl ?_); refine box_event ?hg (N := 2) ?hd (cs := #[.int .i64 a0_0, .int .i64 a0_1]) (t := 27) ?hr ?_; (case hd => rfl); (case hg => rfl); (case hr => first | (go_simp; done) | (go_simp; rfl)); intro gb246 hg w10 hbox hb; have BK246 := Aside0.mk (hbox); have GW246 := gs_ hg; have GE246 := gs_ hg; replace HB := hbs_ hb; clear hb hbox hg) | ((with_reducible refine gate_dst (N := 3) rfl ?_); refine box_event ?hg (N := 3) ?hd (cs := #[.int .i64 a1_0, .int .i64 a1_1]) (t := 27) ?hr ?_; (case hd => rfl); (case hg => rfl); (case hr => first | (go_simp; done) | (go_simp; rfl)); intro gb247 hg w11 hbox hb; have BK247 := Aside0.mk (hbox); have GW247 := gs_ hg; have GE247 := gs_ hg; replace HB := hbs_ hb; have NB246_247 := Aside0.mk ((by rw [hg]; exact Nat.ne_of_lt (blk_lt (g := gb246) (o := .cells #[.int .i64 a0_0, .int .i64 a0_1] 27 (0, 0)) (bk_ BK246)) : gb246 ≠ gb247)); have NB247_246 := Aside0.mk ((by rw [hg]; exact Nat.ne_of_gt (blk_lt (g := gb246) (o := .cells #[.int .i64 a0_0, .int .i64 a0_1] 27 (0, 0)) (bk_ BK246)) : gb247 ≠ gb246)); replace BK246 := bkb_ BK246 hb; clear hb hbox hg; have hnb12 := NB246_247.out; have hnc12 := NB247_246.out; have hcz13 := blk_cell BK246.out; have hfz13 := blk_frozen BK246.out; have hcz14 := blk_cell BK247.out; have hfz14 := blk_frozen BK247.out))
   go_ret
   exact ⟨eq_, bl_⟩
 ·rw [if_neg c3] at H
  have c3b0 : (a0_0 == a1_0) = false := beq_eq_false_iff_ne.mpr c3
  have c3b1 : (a0_0 != a1_0) = true := bne_iff_ne.mpr c3
  obtain rfl := Option.some.inj H
  go_enter Try.func114, Try.ntmps114
  go_wp2_with (first | ((with_reducible refine gate_dst (N := 2) rfl ?_); refine box_event ?hg (N := 2) ?hd (cs := #[.int .i64 a0_0, .int .i64 a0_1]) (t := 27) ?hr ?_; (case hd => rfl); (case hg => rfl); (case hr => first | (go_simp; done) | (go_simp; rfl)); intro gb246 hg w15 hbox hb; have BK246 := Aside0.mk (hbox); have GW246 := gs_ hg; have GE246 := gs_ hg; replace HB := hbs_ hb; clear hb hbox hg) | ((with_reducible refine gate_dst (N := 3) rfl ?_); refine box_event ?hg (N := 3) ?hd (cs := #[.int .i64 a1_0, .int .i64 a1_1]) (t := 27) ?hr ?_; (case hd => rfl); (case hg => rfl); (case hr => first | (go_simp; done) | (go_simp; rfl)); intro gb247 hg w16 hbox hb; have BK247 := Aside0.mk (hbox); have GW247 := gs_ hg; have GE247 := gs_ hg; replace HB := hbs_ hb; have NB246_247 := Aside0.mk ((by rw [hg]; exact Nat.ne_of_lt (blk_lt (g := gb246) (o := .cells #[.int .i64 a0_0, .int .i64 a0_1] 27 (0, 0)) (bk_ BK246)) : gb246 ≠ gb247)); have NB247_246 := Aside0.mk ((by rw [hg]; exact Nat.ne_of_gt (blk_lt (g := gb246) (o := .cells #[.int .i64 a0_0, .int .i64 a0_1] 27 (0, 0)) (bk_ BK246)) : gb247 ≠ gb246)); replace BK246 := bkb_ BK246 hb; clear hb hbox hg; have hnb17 := NB246_247.out; have hnc17 := NB247_246.out; have hcz18 := blk_cell BK246.out; have hfz18 := blk_frozen BK246.out; have hcz19 := blk_cell BK247.out; have hfz19 := blk_frozen BK247.out))
  go_ret
  exact ⟨eq_, bl_⟩
def laws_eqPolNode.f (a0_0 : Int) (a0_1 : Int) (a0_2 : Int) (a0_3 : Int) (a0_4 : Int) (a1_0 : Int) (a1_1 : Int) (a1_2 : Int) (a1_3 : Int) (a1_4 : Int) : Option (Bool) := if a0_0 = a1_0 then ((laws_eqRole.f a0_1 a0_2 a1_1 a1_2).bind fun t250 => (if t250 = true then (if a0_3 = a1_3 then (if a0_4 = a1_4 then (some true) else (some false)) else (some false)) else (some false))) else (some false)
set_option maxHeartbeats 8000000 in
set_option maxRecDepth 100000 in
theorem laws_eqPolNode.calls (a0_0 : Int) (a0_1 : Int) (a0_2 : Int) (a0_3 : Int) (a0_4 : Int) (a1_0 : Int) (a1_1 : Int) (a1_2 : Int) (a1_3 : Int) (a1_4 : Int) (r : Bool) (w : World) (h : laws_eqPolNode.f a0_0 a0_1 a0_2 a0_3 a0_4 a1_0 a1_1 a1_2 a1_3 a1_4 = some r) :
  Calls Try.prog 127 #[.agg #[.int .i64 a0_0, .int .i64 a0_1, .int .i64 a0_2, .int .i64 a0_3, .int .i64 a0_4], .agg #[.int .i64 a1_0, .int .i64 a1_1, .int .i64 a1_2, .int .i64 a1_3, .int .i64 a1_4]] w fun e w' => e = .returned (.bool r) ∧ Below w.heap.size w w' := by
 have hu105 := Try.underlying105
 have hu27 := Try.underlying27
 have HB := Aside0.mk (Below.refl w.heap.size w)
 have H : (if a0_0 = a1_0 then ((laws_eqRole.f a0_1 a0_2 a1_1 a1_2).bind fun t250 => (if t250 = true then (if a0_3 = a1_3 then (if a0_4 = a1_4 then (some true) else (some false)) else (some false)) else (some false))) else (some false)) = some r := h
 clear h
 by_cases c3 : a0_0 = a1_0
 ·rw [if_pos c3] at H
  have c3b0 : (a0_0 == a1_0) = true := beq_iff_eq.mpr c3
  have c3b1 : (a0_0 != a1_0) = false := bne_eq_false_iff_eq.mpr c3
  clear c3
  obtain ⟨t250, A4, H⟩ := bindE_ H
  by_cases c5 : t250 = true
  ·subst c5
   replace H := ite_t_ H
   by_cases c6 : a0_3 = a1_3
   ·rw [if_pos c6] at H
    have c6b0 : (a0_3 == a1_3) = true := beq_iff_eq.mpr c6
    have c6b1 : (a0_3 != a1_3) = false := bne_eq_false_iff_eq.mpr c6
    clear c6
    by_cases c7 : a0_4 = a1_4
    ·rw [if_pos c7] at H
     have c7b0 : (a0_4 == a1_4) = true := beq_iff_eq.mpr c7
     have c7b1 : (a0_4 != a1_4) = false := bne_eq_false_iff_eq.mpr c7
     clear c7
     obtain rfl := Option.some.inj H
     go_enter Try.func127, Try.ntmps127
     go_wp2_with (first | ((with_reducible refine gate_dst (N := 2) rfl ?_); refine box_event ?hg (N := 2) ?hd (cs := #[.int .i64 a0_0, .int .i64 a0_1, .int .i64 a0_2, .int .i64 a0_3, .int .i64 a0_4]) (t := 105) ?hr ?_; (case hd => rfl); (case hg => rfl); (case hr => first | (go_simp; done) | (go_simp; rfl)); intro gb248 hg w8 hbox hb; have BK248 := Aside0.mk (hbox); have GW248 := gs_ hg; have GE248 := gs_ hg; replace HB := hbs_ hb; clear hb hbox hg) | ((with_reducible refine gate_dst (N := 3) rfl ?_); refine box_event ?hg (N := 3) ?hd (cs := #[.int .i64 a1_0, .int .i64 a1_1, .int .i64 a1_2, .int .i64 a1_3, .int .i64 a1_4]) (t := 105) ?hr ?_; (case hd => rfl); (case hg => rfl); (case hr => first | (go_simp; done) | (go_simp; rfl)); intro gb249 hg w9 hbox hb; have BK249 := Aside0.mk (hbox); have GW249 := gs_ hg; have GE249 := gs_ hg; replace HB := hbs_ hb; have NB248_249 := Aside0.mk ((by rw [hg]; exact Nat.ne_of_lt (blk_lt (g := gb248) (o := .cells #[.int .i64 a0_0, .int .i64 a0_1, .int .i64 a0_2, .int .i64 a0_3, .int .i64 a0_4] 105 (0, 0)) (bk_ BK248)) : gb248 ≠ gb249)); have NB249_248 := Aside0.mk ((by rw [hg]; exact Nat.ne_of_gt (blk_lt (g := gb248) (o := .cells #[.int .i64 a0_0, .int .i64 a0_1, .int .i64 a0_2, .int .i64 a0_3, .int .i64 a0_4] 105 (0, 0)) (bk_ BK248)) : gb249 ≠ gb248)); replace BK248 := bkb_ BK248 hb; clear hb hbox hg; have hnb10 := NB248_249.out; have hnc10 := NB249_248.out; have hcz11 := blk_cell BK248.out; have hfz11 := blk_frozen BK248.out; have hcz12 := blk_cell BK249.out; have hfz12 := blk_frozen BK249.out) | ((with_reducible refine gate_callee (f := 114) rfl ?_); refine goesC_ (some 14) Try.func114 #[.agg #[.int .i64 a0_1, .int .i64 a0_2], .agg #[.int .i64 a1_1, .int .i64 a1_2]] ?_; (with_reducible refine (laws_eqRole.calls a0_1 a0_2 a1_1 a1_2 true _ A4.out).mono ?_); rintro e w13 ⟨rfl, hb⟩; refine ⟨_, rfl, ?_⟩; replace BK248 := bkb_ BK248 hb; replace BK249 := bkb_ BK249 hb; replace HB := hbs_ hb; clear hb; have hcz14 := blk_cell BK248.out; have hfz14 := blk_frozen BK248.out; have hcz15 := blk_cell BK249.out; have hfz15 := blk_frozen BK249.out))
     go_ret
     exact ⟨eq_, bl_⟩
    ·rw [if_neg c7] at H
     have c7b0 : (a0_4 == a1_4) = false := beq_eq_false_iff_ne.mpr c7
     have c7b1 : (a0_4 != a1_4) = true := bne_iff_ne.mpr c7
     obtain rfl := Option.some.inj H
     go_enter Try.func127, Try.ntmps127
     go_wp2_with (first | ((with_reducible refine gate_dst (N := 2) rfl ?_); refine box_event ?hg (N := 2) ?hd (cs := #[.int .i64 a0_0, .int .i64 a0_1, .int .i64 a0_2, .int .i64 a0_3, .int .i64 a0_4]) (t := 105) ?hr ?_; (case hd => rfl); (case hg => rfl); (case hr => first | (go_simp; done) | (go_simp; rfl)); intro gb248 hg w16 hbox hb; have BK248 := Aside0.mk (hbox); have GW248 := gs_ hg; have GE248 := gs_ hg; replace HB := hbs_ hb; clear hb hbox hg) | ((with_reducible refine gate_dst (N := 3) rfl ?_); refine box_event ?hg (N := 3) ?hd (cs := #[.int .i64 a1_0, .int .i64 a1_1, .int .i64 a1_2, .int .i64 a1_3, .int .i64 a1_4]) (t := 105) ?hr ?_; (case hd => rfl); (case hg => rfl); (case hr => first | (go_simp; done) | (go_simp; rfl)); intro gb249 hg w17 hbox hb; have BK249 := Aside0.mk (hbox); have GW249 := gs_ hg; have GE249 := gs_ hg; replace HB := hbs_ hb; have NB248_249 := Aside0.mk ((by rw [hg]; exact Nat.ne_of_lt (blk_lt (g := gb248) (o := .cells #[.int .i64 a0_0, .int .i64 a0_1, .int .i64 a0_2, .int .i64 a0_3, .int .i64 a0_4] 105 (0, 0)) (bk_ BK248)) : gb248 ≠ gb249)); have NB249_248 := Aside0.mk ((by rw [hg]; exact Nat.ne_of_gt (blk_lt (g := gb248) (o := .cells #[.int .i64 a0_0, .int .i64 a0_1, .int .i64 a0_2, .int .i64 a0_3, .int .i64 a0_4] 105 (0, 0)) (bk_ BK248)) : gb249 ≠ gb248)); replace BK248 := bkb_ BK248 hb; clear hb hbox hg; have hnb18 := NB248_249.out; have hnc18 := NB249_248.out; have hcz19 := blk_cell BK248.out; have hfz19 := blk_frozen BK248.out; have hcz20 := blk_cell BK249.out; have hfz20 := blk_frozen BK249.out) | ((with_reducible refine gate_callee (f := 114) rfl ?_); refine goesC_ (some 14) Try.func114 #[.agg #[.int .i64 a0_1, .int .i64 a0_2], .agg #[.int .i64 a1_1, .int .i64 a1_2]] ?_; (with_reducible refine (laws_eqRole.calls a0_1 a0_2 a1_1 a1_2 true _ A4.out).mono ?_); rintro e w21 ⟨rfl, hb⟩; refine ⟨_, rfl, ?_⟩; replace BK248 := bkb_ BK248 hb; replace BK249 := bkb_ BK249 hb; replace HB := hbs_ hb; clear hb; have hcz22 := blk_cell BK248.out; have hfz22 := blk_frozen BK248.out; have hcz23 := blk_cell BK249.out; have hfz23 := blk_frozen BK249.out))
     go_ret
     exact ⟨eq_, bl_⟩
   ·rw [if_neg c6] at H
    have c6b0 : (a0_3 == a1_3) = false := beq_eq_false_iff_ne.mpr c6
    have c6b1 : (a0_3 != a1_3) = true := bne_iff_ne.mpr c6
    obtain rfl := Option.some.inj H
    go_enter Try.func127, Try.ntmps127
    go_wp2_with (first | ((with_reducible refine gate_dst (N := 2) rfl ?_); refine box_event ?hg (N := 2) ?hd (cs := #[.int .i64 a0_0, .int .i64 a0_1, .int .i64 a0_2, .int .i64 a0_3, .int .i64 a0_4]) (t := 105) ?hr ?_; (case hd => rfl); (case hg => rfl); (case hr => first | (go_simp; done) | (go_simp; rfl)); intro gb248 hg w24 hbox hb; have BK248 := Aside0.mk (hbox); have GW248 := gs_ hg; have GE248 := gs_ hg; replace HB := hbs_ hb; clear hb hbox hg) | ((with_reducible refine gate_dst (N := 3) rfl ?_); refine box_event ?hg (N := 3) ?hd (cs := #[.int .i64 a1_0, .int .i64 a1_1, .int .i64 a1_2, .int .i64 a1_3, .int .i64 a1_4]) (t := 105) ?hr ?_; (case hd => rfl); (case hg => rfl); (case hr => first | (go_simp; done) | (go_simp; rfl)); intro gb249 hg w25 hbox hb; have BK249 := Aside0.mk (hbox); have GW249 := gs_ hg; have GE249 := gs_ hg; replace HB := hbs_ hb; have NB248_249 := Aside0.mk ((by rw [hg]; exact Nat.ne_of_lt (blk_lt (g := gb248) (o := .cells #[.int .i64 a0_0, .int .i64 a0_1, .int .i64 a0_2, .int .i64 a0_3, .int .i64 a0_4] 105 (0, 0)) (bk_ BK248)) : gb248 ≠ gb249)); have NB249_248 := Aside0.mk ((by rw [hg]; exact Nat.ne_of_gt (blk_lt (g := gb248) (o := .cells #[.int .i64 a0_0, .int .i64 a0_1, .int .i64 a0_2, .int .i64 a0_3, .int .i64 a0_4] 105 (0, 0)) (bk_ BK248)) : gb249 ≠ gb248)); replace BK248 := bkb_ BK248 hb; clear hb hbox hg; have hnb26 := NB248_249.out; have hnc26 := NB249_248.out; have hcz27 := blk_cell BK248.out; have hfz27 := blk_frozen BK248.out; have hcz28 := blk_cell BK249.out; have hfz28 := blk_frozen BK249.out) | ((with_reducible refine gate_callee (f := 114) rfl ?_); refine goesC_ (some 14) Try.func114 #[.agg #[.int .i64 a0_1, .int .i64 a0_2], .agg #[.int .i64 a1_1, .int .i64 a1_2]] ?_; (with_reducible refine (laws_eqRole.calls a0_1 a0_2 a1_1 a1_2 true _ A4.out).mono ?_); rintro e w29 ⟨rfl, hb⟩; refine ⟨_, rfl, ?_⟩; replace BK248 := bkb_ BK248 hb; replace BK249 := bkb_ BK249 hb; replace HB := hbs_ hb; clear hb; have hcz30 := blk_cell BK248.out; have hfz30 := blk_frozen BK248.out; have hcz31 := blk_cell BK249.out; have hfz31 := blk_frozen BK249.out))
    go_ret
    exact ⟨eq_, bl_⟩
  ·replace c5 := Bool.eq_false_iff.mpr c5
   subst c5
   replace H := ite_f_ H
   obtain rfl := Option.some.inj H
   go_enter Try.func127, Try.ntmps127
   go_wp2_with (first | ((with_reducible refine gate_dst (N := 2) rfl ?_); refine box_event ?hg (N := 2) ?hd (cs := #[.int .i64 a0_0, .int .i64 a0_1, .int .i64 a0_2, .int .i64 a0_3, .int .i64 a0_4]) (t := 105) ?hr ?_; (case hd => rfl); (case hg => rfl); (case hr => first | (go_simp; done) | (go_simp; rfl)); intro gb248 hg w32 hbox hb; have BK248 := Aside0.mk (hbox); have GW248 := gs_ hg; have GE248 := gs_ hg; replace HB := hbs_ hb; clear hb hbox hg) | ((with_reducible refine gate_dst (N := 3) rfl ?_); refine box_event ?hg (N := 3) ?hd (cs := #[.int .i64 a1_0, .int .i64 a1_1, .int .i64 a1_2, .int .i64 a1_3, .int .i64 a1_4]) (t := 105) ?hr ?_; (case hd => rfl); (case hg => rfl); (case hr => first | (go_simp; done) | (go_simp; rfl)); intro gb249 hg w33 hbox hb; have BK249 := Aside0.mk (hbox); have GW249 := gs_ hg; have GE249 := gs_ hg; replace HB := hbs_ hb; have NB248_249 := Aside0.mk ((by rw [hg]; exact Nat.ne_of_lt (blk_lt (g := gb248) (o := .cells #[.int .i64 a0_0, .int .i64 a0_1, .int .i64 a0_2, .int .i64 a0_3, .int .i64 a0_4] 105 (0, 0)) (bk_ BK248)) : gb248 ≠ gb249)); have NB249_248 := Aside0.mk ((by rw [hg]; exact Nat.ne_of_gt (blk_lt (g := gb248) (o := .cells #[.int .i64 a0_0, .int .i64 a0_1, .int .i64 a0_2, .int .i64 a0_3, .int .i64 a0_4] 105 (0, 0)) (bk_ BK248)) : gb249 ≠ gb248)); replace BK248 := bkb_ BK248 hb; clear hb hbox hg; have hnb34 := NB248_249.out; have hnc34 := NB249_248.out; have hcz35 := blk_cell BK248.out; have hfz35 := blk_frozen BK248.out; have hcz36 := blk_cell BK249.out; have hfz36 := blk_frozen BK249.out) | ((with_reducible refine gate_callee (f := 114) rfl ?_); refine goesC_ (some 14) Try.func114 #[.agg #[.int .i64 a0_1, .int .i64 a0_2], .agg #[.int .i64 a1_1, .int .i64 a1_2]] ?_; (with_reducible refine (laws_eqRole.calls a0_1 a0_2 a1_1 a1_2 false _ A4.out).mono ?_); rintro e w37 ⟨rfl, hb⟩; refine ⟨_, rfl, ?_⟩; replace BK248 := bkb_ BK248 hb; replace BK249 := bkb_ BK249 hb; replace HB := hbs_ hb; clear hb))
   go_ret
   exact ⟨eq_, bl_⟩
 ·rw [if_neg c3] at H
  have c3b0 : (a0_0 == a1_0) = false := beq_eq_false_iff_ne.mpr c3
  have c3b1 : (a0_0 != a1_0) = true := bne_iff_ne.mpr c3
  obtain rfl := Option.some.inj H
  go_enter Try.func127, Try.ntmps127
  go_wp2_with (first | ((with_reducible refine gate_dst (N := 2) rfl ?_); refine box_event ?hg (N := 2) ?hd (cs := #[.int .i64 a0_0, .int .i64 a0_1, .int .i64 a0_2, .int .i64 a0_3, .int .i64 a0_4]) (t := 105) ?hr ?_; (case hd => rfl); (case hg => rfl); (case hr => first | (go_simp; done) | (go_simp; rfl)); intro gb248 hg w38 hbox hb; have BK248 := Aside0.mk (hbox); have GW248 := gs_ hg; have GE248 := gs_ hg; replace HB := hbs_ hb; clear hb hbox hg) | ((with_reducible refine gate_dst (N := 3) rfl ?_); refine box_event ?hg (N := 3) ?hd (cs := #[.int .i64 a1_0, .int .i64 a1_1, .int .i64 a1_2, .int .i64 a1_3, .int .i64 a1_4]) (t := 105) ?hr ?_; (case hd => rfl); (case hg => rfl); (case hr => first | (go_simp; done) | (go_simp; rfl)); intro gb249 hg w39 hbox hb; have BK249 := Aside0.mk (hbox); have GW249 := gs_ hg; have GE249 := gs_ hg; replace HB := hbs_ hb; have NB248_249 := Aside0.mk ((by rw [hg]; exact Nat.ne_of_lt (blk_lt (g := gb248) (o := .cells #[.int .i64 a0_0, .int .i64 a0_1, .int .i64 a0_2, .int .i64 a0_3, .int .i64 a0_4] 105 (0, 0)) (bk_ BK248)) : gb248 ≠ gb249)); have NB249_248 := Aside0.mk ((by rw [hg]; exact Nat.ne_of_gt (blk_lt (g := gb248) (o := .cells #[.int .i64 a0_0, .int .i64 a0_1, .int .i64 a0_2, .int .i64 a0_3, .int .i64 a0_4] 105 (0, 0)) (bk_ BK248)) : gb249 ≠ gb248)); replace BK248 := bkb_ BK248 hb; clear hb hbox hg; have hnb40 := NB248_249.out; have hnc40 := NB249_248.out; have hcz41 := blk_cell BK248.out; have hfz41 := blk_frozen BK248.out; have hcz42 := blk_cell BK249.out; have hfz42 := blk_frozen BK249.out))
  go_ret
  exact ⟨eq_, bl_⟩
def laws_eqPolNodeS.l0 : Nat → List (S105) → List (S105) → Int → Option (Bool)
 | 0, _, _, _ => none
 | k + 1, x0, x1, x5 => if x5 < (x0.length : Int) then (if 0 ≤ x5 then (if x5 < (x1.length : Int) then ((laws_eqPolNode.f ((rd_T105 x0 x5).f0) ((rd_T105 x0 x5).f1.f0) ((rd_T105 x0 x5).f1.f1) ((rd_T105 x0 x5).f2) ((rd_T105 x0 x5).f3) ((rd_T105 x1 x5).f0) ((rd_T105 x1 x5).f1.f0) ((rd_T105 x1 x5).f1.f1) ((rd_T105 x1 x5).f2) ((rd_T105 x1 x5).f3)).bind fun t253 => (if t253 = true then (laws_eqPolNodeS.l0 k x0 x1 (wrap64 (x5 + 1))) else (some false))) else (none)) else (none)) else (some true)
def laws_eqPolNodeS.f (k : Nat) (l0 : List (S105)) (l1 : List (S105)) : Option (Bool) := if (l0.length : Int) = (l1.length : Int) then (laws_eqPolNodeS.l0 k l0 l1 0) else (some false)
def laws_eqPolNodeS.T6 : Bool × List (List Nat × List Nat) := (true, [([], []), ([], []), ([0, 1], [0, 1]), ([2], [2]), ([], []), ([], []), ([4, 5], [4, 5]), ([6], [6]), ([3, 7], [3, 7]), ([8], [8])])
def laws_eqPolNodeS.B6 : List Nat := [0, 0, 3, 7, 0, 0, 48, 112, 255, 511]
theorem laws_eqPolNodeS.tab6 : rtab .any (opsOf Try.f81 6) = laws_eqPolNodeS.T6 := by kernel_rfl
theorem laws_eqPolNodeS.bits6 : waitsOk laws_eqPolNodeS.T6.2 laws_eqPolNodeS.B6 = true := by kernel_rfl
set_option maxHeartbeats 8000000 in
set_option maxRecDepth 100000 in
theorem laws_eqPolNodeS.calls (k : Nat) (A0 : Option Addr) (c0 : Nat) (l0 : List (S105)) (A1 : Option Addr) (c1 : Nat) (l1 : List (S105)) (r : Bool) (w : World) (hr0 : Kd.C k105 w A0 l0.length l0) (hc0 : l0.length ≤ c0) (hr1 : Kd.C k105 w A1 l1.length l1) (hc1 : l1.length ≤ c1) (h : laws_eqPolNodeS.f k l0 l1 = some r) :
  Calls Try.prog 81 #[.slice A0 l0.length c0, .slice A1 l1.length c1] w fun e w' => e = .returned (.bool r) ∧ Below w.heap.size w w' := by
 have hu105 := Try.underlying105
 have HR0 := Aside0.mk hr0
 have HC0 := Aside0.mk hc0
 clear hr0 hc0
 have HR1 := Aside0.mk hr1
 have HC1 := Aside0.mk hc1
 clear hr1 hc1
 have HB := Aside0.mk (Below.refl w.heap.size w)
 have H : (if (l0.length : Int) = (l1.length : Int) then (laws_eqPolNodeS.l0 k l0 l1 0) else (some false)) = some r := h
 clear h
 by_cases c3 : (l0.length : Int) = (l1.length : Int)
 ·rw [if_pos c3] at H
  have c3b0 : ((l0.length : Int) == (l1.length : Int)) = true := beq_iff_eq.mpr c3
  have c3b1 : ((l0.length : Int) != (l1.length : Int)) = false := bne_eq_false_iff_eq.mpr c3
  have c3b2 : (l0.length == l1.length) = true := by first | simpa using c3 | (simp at c3 ⊢; omega)
  clear c3
  have H' := Aside0.mk H
  clear H
  go_enter Try.func81, Try.ntmps81
  go_wp2
  go_loopg [5] k (fun kq v5 w' => ∃ (x5_1 : Int), v5 = .int .i64 x5_1 ∧ Aside0 (laws_eqPolNodeS.l0 kq l0 l1 x5_1 = some r) ∧ Aside0 (kq ≤ k) ∧ Aside0 (Below w.heap.size w w'))
  case atStart => exact ⟨(0), (by first | rfl | (simp; done) | (simp [*]; done)), H', ⟨Nat.le_refl _⟩, ⟨bl_⟩⟩
  case round =>
   clear H'
   try clear c1
   try clear p2
   try clear c3
   try clear c3b0
   try clear c3b1
   try clear c3b2
   obtain ⟨x5_1, rfl, HA, HK1, HB⟩ := hrel
   cases gk with
   | zero => exact absurd HA.out (by simp [laws_eqPolNodeS.l0])
   | succ k1 =>
    have H := HA.out
    clear HA
    simp only [laws_eqPolNodeS.l0] at H
    by_cases c4 : x5_1 < (l0.length : Int)
    ·rw [if_pos c4] at H
     have c4b0 : decide (x5_1 < (l0.length : Int)) = true := decide_eq_true c4
     clear c4
     by_cases c5 : 0 ≤ x5_1
     ·rw [if_pos c5] at H
      have c5b0 : decide (0 ≤ x5_1) = true := decide_eq_true c5
      clear c5
      by_cases c6 : x5_1 < (l1.length : Int)
      ·rw [if_pos c6] at H
       have c6b0 : decide (x5_1 < (l1.length : Int)) = true := decide_eq_true c6
       clear c6
       obtain ⟨t253, A7, H⟩ := bindE_ H
       by_cases c8 : t253 = true
       ·subst c8
        replace H := ite_t_ H
        have H' := Aside0.mk H
        clear H
        try go_wp2
        replace HB := Aside0.mk (below_drew1 HB.out)
        have p251 : 0 ≤ (x5_1 : Int) := of_decide_eq_true (by first | (with_reducible assumption) | assumption)
        have q251 : x5_1 < (l0.length : Int) := of_decide_eq_true (by first | (with_reducible assumption) | assumption)
        obtain ⟨ad251, e251, hx251_0, hx251_1, hx251_2, hx251_3, hx251_4⟩ := at_T105 HR0.out x5_1 p251 q251
        have hw251_4 := hx251_4
        have hw251_3 := hx251_3
        have hw251_2 := hx251_2
        have hw251_1 := hx251_1
        have hw251_0 := hx251_0
        cases e251
        replace hx251_0 := cb_ HB hx251_0
        replace hx251_1 := cb_ HB hx251_1
        replace hx251_2 := cb_ HB hx251_2
        replace hx251_3 := cb_ HB hx251_3
        replace hx251_4 := cb_ HB hx251_4
        replace p251 := eq_true p251
        replace q251 := eq_true q251
        have p252 : 0 ≤ (x5_1 : Int) := of_decide_eq_true (by first | (with_reducible assumption) | assumption)
        have q252 : x5_1 < (l1.length : Int) := of_decide_eq_true (by first | (with_reducible assumption) | assumption)
        obtain ⟨ad252, e252, hx252_0, hx252_1, hx252_2, hx252_3, hx252_4⟩ := at_T105 HR1.out x5_1 p252 q252
        have hw252_4 := hx252_4
        have hw252_3 := hx252_3
        have hw252_2 := hx252_2
        have hw252_1 := hx252_1
        have hw252_0 := hx252_0
        cases e252
        replace hx252_0 := cb_ HB hx252_0
        replace hx252_1 := cb_ HB hx252_1
        replace hx252_2 := cb_ HB hx252_2
        replace hx252_3 := cb_ HB hx252_3
        replace hx252_4 := cb_ HB hx252_4
        replace p252 := eq_true p252
        replace q252 := eq_true q252
        refine start_ (n := 10) (S := fun w' => w'.cell? (ad251.add ((x5_1).toNat * 5)) = some (.int .i64 ((rd_T105 l0 x5_1).f0)) ∧ w'.cell? ⟨(ad251.add ((x5_1).toNat * 5)).block, (ad251.add ((x5_1).toNat * 5)).off + 1, none⟩ = some (.int .i64 ((rd_T105 l0 x5_1).f1.f0)) ∧ w'.cell? ⟨(ad251.add ((x5_1).toNat * 5)).block, (ad251.add ((x5_1).toNat * 5)).off + 2, none⟩ = some (.int .i64 ((rd_T105 l0 x5_1).f1.f1)) ∧ w'.cell? ⟨(ad251.add ((x5_1).toNat * 5)).block, (ad251.add ((x5_1).toNat * 5)).off + 3, none⟩ = some (.int .i64 ((rd_T105 l0 x5_1).f2)) ∧ w'.cell? ⟨(ad251.add ((x5_1).toNat * 5)).block, (ad251.add ((x5_1).toNat * 5)).off + 4, none⟩ = some (.int .i64 ((rd_T105 l0 x5_1).f3)) ∧ w'.cell? (ad252.add ((x5_1).toNat * 5)) = some (.int .i64 ((rd_T105 l1 x5_1).f0)) ∧ w'.cell? ⟨(ad252.add ((x5_1).toNat * 5)).block, (ad252.add ((x5_1).toNat * 5)).off + 1, none⟩ = some (.int .i64 ((rd_T105 l1 x5_1).f1.f0)) ∧ w'.cell? ⟨(ad252.add ((x5_1).toNat * 5)).block, (ad252.add ((x5_1).toNat * 5)).off + 2, none⟩ = some (.int .i64 ((rd_T105 l1 x5_1).f1.f1)) ∧ w'.cell? ⟨(ad252.add ((x5_1).toNat * 5)).block, (ad252.add ((x5_1).toNat * 5)).off + 3, none⟩ = some (.int .i64 ((rd_T105 l1 x5_1).f2)) ∧ w'.cell? ⟨(ad252.add ((x5_1).toNat * 5)).block, (ad252.add ((x5_1).toNat * 5)).off + 4, none⟩ = some (.int .i64 ((rd_T105 l1 x5_1).f3))) (ds := []) #[false, false, false, false, false, false, false, false, false, false] (by kernel_rfl) rfl rfl ⟨((HB.out.cell (World.block_lt_of_cell? w _ hw251_0)).trans hw251_0), ((HB.out.cell (World.block_lt_of_cell? w _ hw251_1)).trans hw251_1), ((HB.out.cell (World.block_lt_of_cell? w _ hw251_2)).trans hw251_2), ((HB.out.cell (World.block_lt_of_cell? w _ hw251_3)).trans hw251_3), ((HB.out.cell (World.block_lt_of_cell? w _ hw251_4)).trans hw251_4), ((HB.out.cell (World.block_lt_of_cell? w _ hw252_0)).trans hw252_0), ((HB.out.cell (World.block_lt_of_cell? w _ hw252_1)).trans hw252_1), ((HB.out.cell (World.block_lt_of_cell? w _ hw252_2)).trans hw252_2), ((HB.out.cell (World.block_lt_of_cell? w _ hw252_3)).trans hw252_3), ((HB.out.cell (World.block_lt_of_cell? w _ hw252_4)).trans hw252_4)⟩ (fun hHeld => ?_); refine with_tabW laws_eqPolNodeS.tab6 laws_eqPolNodeS.bits6 (fun HT_ HW_ => ?_)
        generalize wr.drew = w9 at HB hx251_0 hx251_1 hx251_2 hx251_3 hx251_4 hx252_0 hx252_1 hx252_2 hx252_3 hx252_4 hHeld ⊢
        refine pureZ_ (i := 0) (some 17) #[true, false, false, false, false, false, false, false, false, false] (any_of HT_.out (by kernel_rfl)) ?_
        refine pureZ_ (i := 1) (some 18) #[true, true, false, false, false, false, false, false, false, false] (any_of HT_.out (by kernel_rfl)) ?_
        refine pureZ_ (i := 2) (some 19) #[true, true, true, false, false, false, false, false, false, false] (any_of HT_.out (by kernel_rfl)) ?_
        refine pureZ_ (i := 4) (some 21) #[true, true, true, false, true, false, false, false, false, false] (any_of HT_.out (by kernel_rfl)) ?_
        refine pureZ_ (i := 5) (some 22) #[true, true, true, false, true, true, false, false, false, false] (any_of HT_.out (by kernel_rfl)) ?_
        refine pureZ_ (i := 6) (some 23) #[true, true, true, false, true, true, true, false, false, false] (any_of HT_.out (by kernel_rfl)) ?_
        refine takeZ_ (i := 3) (some 20) #[true, true, true, true, true, true, true, false, false, false] (take_ofW HT_.out HW_.out (by kernel_rfl)) hHeld ?_
        refine takeZ_ (i := 7) (some 24) #[true, true, true, true, true, true, true, true, false, false] (take_ofW HT_.out HW_.out (by kernel_rfl)) hHeld ?_
        refine one_ (i := 8) (N := some 25) #[true, true, true, true, true, true, true, true, true, false] rfl rfl (one_of HT_.out (by kernel_rfl)) (by decide) (fun K hK => ?_)
        refine goes_ Try.func127 (by kernel_rfl) rfl #[.agg #[.int .i64 ((rd_T105 l0 x5_1).f0), .int .i64 ((rd_T105 l0 x5_1).f1.f0), .int .i64 ((rd_T105 l0 x5_1).f1.f1), .int .i64 ((rd_T105 l0 x5_1).f2), .int .i64 ((rd_T105 l0 x5_1).f3)], .agg #[.int .i64 ((rd_T105 l1 x5_1).f0), .int .i64 ((rd_T105 l1 x5_1).f1.f0), .int .i64 ((rd_T105 l1 x5_1).f1.f1), .int .i64 ((rd_T105 l1 x5_1).f2), .int .i64 ((rd_T105 l1 x5_1).f3)]] (by rfl) rfl rfl (by (try simp only [List.map_toArray, List.map_cons, List.map_nil]); first | done | rfl | (simp only [List.length_drop, List.length_take]; rfl)) ?_
        with_reducible refine (laws_eqPolNode.calls ((rd_T105 l0 x5_1).f0) ((rd_T105 l0 x5_1).f1.f0) ((rd_T105 l0 x5_1).f1.f1) ((rd_T105 l0 x5_1).f2) ((rd_T105 l0 x5_1).f3) ((rd_T105 l1 x5_1).f0) ((rd_T105 l1 x5_1).f1.f0) ((rd_T105 l1 x5_1).f1.f1) ((rd_T105 l1 x5_1).f2) ((rd_T105 l1 x5_1).f3) true _ A7.out).mono ?_
        rintro e w10 ⟨rfl, hb⟩
        refine ⟨_, rfl, ?_⟩
        replace HB := hbs_ hb
        (try clear hb)
        (try clear hb2)
        (try clear hk)
        (try clear hi)
        refine hK.out _ _ ⟨((HB.out.cell (World.block_lt_of_cell? w _ hw251_0)).trans hw251_0), ((HB.out.cell (World.block_lt_of_cell? w _ hw251_1)).trans hw251_1), ((HB.out.cell (World.block_lt_of_cell? w _ hw251_2)).trans hw251_2), ((HB.out.cell (World.block_lt_of_cell? w _ hw251_3)).trans hw251_3), ((HB.out.cell (World.block_lt_of_cell? w _ hw251_4)).trans hw251_4), ((HB.out.cell (World.block_lt_of_cell? w _ hw252_0)).trans hw252_0), ((HB.out.cell (World.block_lt_of_cell? w _ hw252_1)).trans hw252_1), ((HB.out.cell (World.block_lt_of_cell? w _ hw252_2)).trans hw252_2), ((HB.out.cell (World.block_lt_of_cell? w _ hw252_3)).trans hw252_3), ((HB.out.cell (World.block_lt_of_cell? w _ hw252_4)).trans hw252_4)⟩ (fun hHeld => ?_)
        clear hK K
        refine norm_ (a' := ?_) ?_ ?_
        rotate_left
        ·show Act.put _ (some 25) _ = _
         simp only [Act.put, List.setIfInBounds_toArray, List.set_cons_zero, List.set_cons_succ, i64_w, i32_w]
         rfl
        refine pureZ_ (i := 9) (some 26) #[true, true, true, true, true, true, true, true, true, true] (any_of HT_.out (by kernel_rfl)) ?_
        refine done_ (done_of HT_.out (by kernel_rfl)) ?_
        try go_wp2
        go_roundg k1
        case measure => have := HK1.out; omega
        case rel => exact ⟨(wrap64 (x5_1 + 1)), (by first | rfl | (simp; done) | (simp [*]; done)), H', ⟨by have := HK1.out; omega⟩, ⟨bl_⟩⟩
       ·replace c8 := Bool.eq_false_iff.mpr c8
        subst c8
        replace H := ite_f_ H
        obtain rfl := Option.some.inj H
        try go_wp2
        replace HB := Aside0.mk (below_drew1 HB.out)
        have p251 : 0 ≤ (x5_1 : Int) := of_decide_eq_true (by first | (with_reducible assumption) | assumption)
        have q251 : x5_1 < (l0.length : Int) := of_decide_eq_true (by first | (with_reducible assumption) | assumption)
        obtain ⟨ad251, e251, hx251_0, hx251_1, hx251_2, hx251_3, hx251_4⟩ := at_T105 HR0.out x5_1 p251 q251
        have hw251_4 := hx251_4
        have hw251_3 := hx251_3
        have hw251_2 := hx251_2
        have hw251_1 := hx251_1
        have hw251_0 := hx251_0
        cases e251
        replace hx251_0 := cb_ HB hx251_0
        replace hx251_1 := cb_ HB hx251_1
        replace hx251_2 := cb_ HB hx251_2
        replace hx251_3 := cb_ HB hx251_3
        replace hx251_4 := cb_ HB hx251_4
        replace p251 := eq_true p251
        replace q251 := eq_true q251
        have p252 : 0 ≤ (x5_1 : Int) := of_decide_eq_true (by first | (with_reducible assumption) | assumption)
        have q252 : x5_1 < (l1.length : Int) := of_decide_eq_true (by first | (with_reducible assumption) | assumption)
        obtain ⟨ad252, e252, hx252_0, hx252_1, hx252_2, hx252_3, hx252_4⟩ := at_T105 HR1.out x5_1 p252 q252
        have hw252_4 := hx252_4
        have hw252_3 := hx252_3
        have hw252_2 := hx252_2
        have hw252_1 := hx252_1
        have hw252_0 := hx252_0
        cases e252
        replace hx252_0 := cb_ HB hx252_0
        replace hx252_1 := cb_ HB hx252_1
        replace hx252_2 := cb_ HB hx252_2
        replace hx252_3 := cb_ HB hx252_3
        replace hx252_4 := cb_ HB hx252_4
        replace p252 := eq_true p252
        replace q252 := eq_true q252
        refine start_ (n := 10) (S := fun w' => w'.cell? (ad251.add ((x5_1).toNat * 5)) = some (.int .i64 ((rd_T105 l0 x5_1).f0)) ∧ w'.cell? ⟨(ad251.add ((x5_1).toNat * 5)).block, (ad251.add ((x5_1).toNat * 5)).off + 1, none⟩ = some (.int .i64 ((rd_T105 l0 x5_1).f1.f0)) ∧ w'.cell? ⟨(ad251.add ((x5_1).toNat * 5)).block, (ad251.add ((x5_1).toNat * 5)).off + 2, none⟩ = some (.int .i64 ((rd_T105 l0 x5_1).f1.f1)) ∧ w'.cell? ⟨(ad251.add ((x5_1).toNat * 5)).block, (ad251.add ((x5_1).toNat * 5)).off + 3, none⟩ = some (.int .i64 ((rd_T105 l0 x5_1).f2)) ∧ w'.cell? ⟨(ad251.add ((x5_1).toNat * 5)).block, (ad251.add ((x5_1).toNat * 5)).off + 4, none⟩ = some (.int .i64 ((rd_T105 l0 x5_1).f3)) ∧ w'.cell? (ad252.add ((x5_1).toNat * 5)) = some (.int .i64 ((rd_T105 l1 x5_1).f0)) ∧ w'.cell? ⟨(ad252.add ((x5_1).toNat * 5)).block, (ad252.add ((x5_1).toNat * 5)).off + 1, none⟩ = some (.int .i64 ((rd_T105 l1 x5_1).f1.f0)) ∧ w'.cell? ⟨(ad252.add ((x5_1).toNat * 5)).block, (ad252.add ((x5_1).toNat * 5)).off + 2, none⟩ = some (.int .i64 ((rd_T105 l1 x5_1).f1.f1)) ∧ w'.cell? ⟨(ad252.add ((x5_1).toNat * 5)).block, (ad252.add ((x5_1).toNat * 5)).off + 3, none⟩ = some (.int .i64 ((rd_T105 l1 x5_1).f2)) ∧ w'.cell? ⟨(ad252.add ((x5_1).toNat * 5)).block, (ad252.add ((x5_1).toNat * 5)).off + 4, none⟩ = some (.int .i64 ((rd_T105 l1 x5_1).f3))) (ds := []) #[false, false, false, false, false, false, false, false, false, false] (by kernel_rfl) rfl rfl ⟨((HB.out.cell (World.block_lt_of_cell? w _ hw251_0)).trans hw251_0), ((HB.out.cell (World.block_lt_of_cell? w _ hw251_1)).trans hw251_1), ((HB.out.cell (World.block_lt_of_cell? w _ hw251_2)).trans hw251_2), ((HB.out.cell (World.block_lt_of_cell? w _ hw251_3)).trans hw251_3), ((HB.out.cell (World.block_lt_of_cell? w _ hw251_4)).trans hw251_4), ((HB.out.cell (World.block_lt_of_cell? w _ hw252_0)).trans hw252_0), ((HB.out.cell (World.block_lt_of_cell? w _ hw252_1)).trans hw252_1), ((HB.out.cell (World.block_lt_of_cell? w _ hw252_2)).trans hw252_2), ((HB.out.cell (World.block_lt_of_cell? w _ hw252_3)).trans hw252_3), ((HB.out.cell (World.block_lt_of_cell? w _ hw252_4)).trans hw252_4)⟩ (fun hHeld => ?_); refine with_tabW laws_eqPolNodeS.tab6 laws_eqPolNodeS.bits6 (fun HT_ HW_ => ?_)
        generalize wr.drew = w11 at HB hx251_0 hx251_1 hx251_2 hx251_3 hx251_4 hx252_0 hx252_1 hx252_2 hx252_3 hx252_4 hHeld ⊢
        refine pureZ_ (i := 0) (some 17) #[true, false, false, false, false, false, false, false, false, false] (any_of HT_.out (by kernel_rfl)) ?_
        refine pureZ_ (i := 1) (some 18) #[true, true, false, false, false, false, false, false, false, false] (any_of HT_.out (by kernel_rfl)) ?_
        refine pureZ_ (i := 2) (some 19) #[true, true, true, false, false, false, false, false, false, false] (any_of HT_.out (by kernel_rfl)) ?_
        refine pureZ_ (i := 4) (some 21) #[true, true, true, false, true, false, false, false, false, false] (any_of HT_.out (by kernel_rfl)) ?_
        refine pureZ_ (i := 5) (some 22) #[true, true, true, false, true, true, false, false, false, false] (any_of HT_.out (by kernel_rfl)) ?_
        refine pureZ_ (i := 6) (some 23) #[true, true, true, false, true, true, true, false, false, false] (any_of HT_.out (by kernel_rfl)) ?_
        refine takeZ_ (i := 3) (some 20) #[true, true, true, true, true, true, true, false, false, false] (take_ofW HT_.out HW_.out (by kernel_rfl)) hHeld ?_
        refine takeZ_ (i := 7) (some 24) #[true, true, true, true, true, true, true, true, false, false] (take_ofW HT_.out HW_.out (by kernel_rfl)) hHeld ?_
        refine one_ (i := 8) (N := some 25) #[true, true, true, true, true, true, true, true, true, false] rfl rfl (one_of HT_.out (by kernel_rfl)) (by decide) (fun K hK => ?_)
        refine goes_ Try.func127 (by kernel_rfl) rfl #[.agg #[.int .i64 ((rd_T105 l0 x5_1).f0), .int .i64 ((rd_T105 l0 x5_1).f1.f0), .int .i64 ((rd_T105 l0 x5_1).f1.f1), .int .i64 ((rd_T105 l0 x5_1).f2), .int .i64 ((rd_T105 l0 x5_1).f3)], .agg #[.int .i64 ((rd_T105 l1 x5_1).f0), .int .i64 ((rd_T105 l1 x5_1).f1.f0), .int .i64 ((rd_T105 l1 x5_1).f1.f1), .int .i64 ((rd_T105 l1 x5_1).f2), .int .i64 ((rd_T105 l1 x5_1).f3)]] (by rfl) rfl rfl (by (try simp only [List.map_toArray, List.map_cons, List.map_nil]); first | done | rfl | (simp only [List.length_drop, List.length_take]; rfl)) ?_
        with_reducible refine (laws_eqPolNode.calls ((rd_T105 l0 x5_1).f0) ((rd_T105 l0 x5_1).f1.f0) ((rd_T105 l0 x5_1).f1.f1) ((rd_T105 l0 x5_1).f2) ((rd_T105 l0 x5_1).f3) ((rd_T105 l1 x5_1).f0) ((rd_T105 l1 x5_1).f1.f0) ((rd_T105 l1 x5_1).f1.f1) ((rd_T105 l1 x5_1).f2) ((rd_T105 l1 x5_1).f3) false _ A7.out).mono ?_
        rintro e w12 ⟨rfl, hb⟩
        refine ⟨_, rfl, ?_⟩
        replace HB := hbs_ hb
        (try clear hb)
        (try clear hb2)
        (try clear hk)
        (try clear hi)
        refine hK.out _ _ ⟨((HB.out.cell (World.block_lt_of_cell? w _ hw251_0)).trans hw251_0), ((HB.out.cell (World.block_lt_of_cell? w _ hw251_1)).trans hw251_1), ((HB.out.cell (World.block_lt_of_cell? w _ hw251_2)).trans hw251_2), ((HB.out.cell (World.block_lt_of_cell? w _ hw251_3)).trans hw251_3), ((HB.out.cell (World.block_lt_of_cell? w _ hw251_4)).trans hw251_4), ((HB.out.cell (World.block_lt_of_cell? w _ hw252_0)).trans hw252_0), ((HB.out.cell (World.block_lt_of_cell? w _ hw252_1)).trans hw252_1), ((HB.out.cell (World.block_lt_of_cell? w _ hw252_2)).trans hw252_2), ((HB.out.cell (World.block_lt_of_cell? w _ hw252_3)).trans hw252_3), ((HB.out.cell (World.block_lt_of_cell? w _ hw252_4)).trans hw252_4)⟩ (fun hHeld => ?_)
        clear hK K
        refine norm_ (a' := ?_) ?_ ?_
        rotate_left
        ·show Act.put _ (some 25) _ = _
         simp only [Act.put, List.setIfInBounds_toArray, List.set_cons_zero, List.set_cons_succ, i64_w, i32_w]
         rfl
        refine pureZ_ (i := 9) (some 26) #[true, true, true, true, true, true, true, true, true, true] (any_of HT_.out (by kernel_rfl)) ?_
        refine done_ (done_of HT_.out (by kernel_rfl)) ?_
        try go_wp2
        go_ret
        exact ⟨eq_, bl_⟩
      ·rw [if_neg c6] at H
       exact absurd H (by simp)
     ·rw [if_neg c5] at H
      exact absurd H (by simp)
    ·rw [if_neg c4] at H
     have c4b0 : decide (x5_1 < (l0.length : Int)) = false := decide_eq_false c4
     clear c4
     obtain rfl := Option.some.inj H
     go_wp2
     go_ret
     exact ⟨eq_, bl_⟩
 ·rw [if_neg c3] at H
  have c3b0 : ((l0.length : Int) == (l1.length : Int)) = false := beq_eq_false_iff_ne.mpr c3
  have c3b1 : ((l0.length : Int) != (l1.length : Int)) = true := bne_iff_ne.mpr c3
  have c3b2 : (l0.length == l1.length) = false := by first | simpa using c3 | (simp at c3 ⊢; omega)
  obtain rfl := Option.some.inj H
  go_enter Try.func81, Try.ntmps81
  go_wp2
  go_ret
  exact ⟨eq_, bl_⟩
end Go.Proofs.Ytcgnegnljffkmaa.PA
