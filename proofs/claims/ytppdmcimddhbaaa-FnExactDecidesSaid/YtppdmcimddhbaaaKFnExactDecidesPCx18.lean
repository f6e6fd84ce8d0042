import Derived.Test.YtppdmcimddhbaaaKFnExactDecidesPCx0
import Derived.Test.YtppdmcimddhbaaaKFnExactDecidesPCx4
import Derived.Test.YtppdmcimddhbaaaKFnExactDecidesPCx17
-- A text of this claim: written by the session's own program out of the translation (wip/tools). Lean checks it.
namespace Go.Proofs.Ytppdmcimddhbaaa.PC
open Go.RowKit Go.Proofs.YtppdmcimddhbaaaW.PrintWords Go.Proofs.YtppdmcimddhbaaaW.PrintLast Go.Proofs.YtppdmcimddhbaaaW.PrintMore
attribute [local go_sem] max2_int min2_int max_two min_two max_three min_three max_four min_four   -- for this text's walks alone
set_option linter.unusedVariables false
set_option linter.unusedSimpArgs false
mutual
def spec_PolicyOk.l0 : Nat → Int → List (S71) → Option (Bool)
 | 0, _, _ => none
 | k + 1, x3, x556000 => if x3 < (x556000.length : Int) then (if 0 ≤ x3 then (if ((rd_T71 x556000 x3).f0) = 1 then ((spec_RoleOk.f ((rd_T71 x556000 x3).f1.f0) ((rd_T71 x556000 x3).f1.f1)).bind fun t559 => (if t559 = true then (if ((rd_T71 x556000 x3).f2) = 0 then (if ((rd_T71 x556000 x3).f3) = 0 then (spec_PolicyOk.l0 k (wrap64 (x3 + 1)) x556000) else (some false)) else (some false)) else (some false))) else (if ((rd_T71 x556000 x3).f0) = 2 then (spec_PolicyOk.j1 k x3 ((rd_T71 x556000 x3).f0) (((rd_T71 x556000 x3).f0) == 2) x556000 ((rd_T71 x556000 x3).f0) ((rd_T71 x556000 x3).f1.f0) ((rd_T71 x556000 x3).f1.f1) ((rd_T71 x556000 x3).f2) ((rd_T71 x556000 x3).f3)) else (spec_PolicyOk.j1 k x3 ((rd_T71 x556000 x3).f0) (((rd_T71 x556000 x3).f0) == 3) x556000 ((rd_T71 x556000 x3).f0) ((rd_T71 x556000 x3).f1.f0) ((rd_T71 x556000 x3).f1.f1) ((rd_T71 x556000 x3).f2) ((rd_T71 x556000 x3).f3)))) else (none)) else (some true)
def spec_PolicyOk.j1 : Nat → Int → Int → Bool → List (S71) → Int → Int → Int → Int → Int → Option (Bool)
 | 0, _, _, _, _, _, _, _, _, _ => none
 | k + 1, x3, x23, x40, x556000, x559000, x559001, x559002, x559003, x559004 => if x40 = true then ((spec_l21None.f x559001 x559002).bind fun t560 => (if t560 = true then ((spec_l01In.f x559003 0 (wrap64 (x3 - 1))).bind fun t561 => (if t561 = true then ((spec_l01In.f x559004 0 (wrap64 (x3 - 1))).bind fun t562 => (if t562 = true then (spec_PolicyOk.l0 k (wrap64 (x3 + 1)) x556000) else (some false))) else (some false))) else (some false))) else (if x23 = 4 then ((spec_l21None.f x559001 x559002).bind fun t563 => (if t563 = true then ((spec_l01In.f x559003 0 (wrap64 (x3 - 1))).bind fun t564 => (if t564 = true then (if x559004 = 0 then (spec_PolicyOk.l0 k (wrap64 (x3 + 1)) x556000) else (some false)) else (some false))) else (some false))) else (some false))
end
def spec_PolicyOk.f (k : Nat) (l0_0 : List (S71)) : Option (Bool) := (spec_l01In.f (l0_0.length : Int) 1 40).bind fun t556 => (if t556 = true then (spec_PolicyOk.l0 k 0 l0_0) else (some false))
set_option maxHeartbeats 8000000 in
set_option maxRecDepth 100000 in
theorem spec_PolicyOk.calls (k : Nat) (A0_0 : Option Addr) (c0_0 : Nat) (l0_0 : List (S71)) (r : Bool) (w : World) (hr0_0 : Kd.C k71 w A0_0 l0_0.length l0_0) (hc0_0 : l0_0.length ≤ c0_0) (h : spec_PolicyOk.f k l0_0 = some r) :
  Calls Try.prog 111 #[.agg #[.slice A0_0 l0_0.length c0_0]] w fun e w' => e = .returned (.bool r) ∧ Below w.heap.size w w' := by
 have hu68 := Try.underlying68
 have hu71 := Try.underlying71
 have hu27 := Try.underlying27
 have HR0_0 := Aside0.mk hr0_0
 have HC0_0 := Aside0.mk hc0_0
 clear hr0_0 hc0_0
 have HB := Aside0.mk (Below.refl w.heap.size w)
 have H : ((spec_l01In.f (l0_0.length : Int) 1 40).bind fun t556 => (if t556 = true then (spec_PolicyOk.l0 k 0 l0_0) else (some false))) = some r := h
 clear h
 obtain ⟨t556, A2, H⟩ := bindE_ H
 by_cases c3 : t556 = true
 ·subst c3
  replace H := ite_t_ H
  have H' := Aside0.mk H
  clear H
  go_enter Try.func111, Try.ntmps111
  go_wp2_with (first | ((with_reducible refine gate_dst (N := 1) rfl ?_); refine box_event ?hg (N := 1) ?hd (cs := #[.slice A0_0 l0_0.length c0_0]) (t := 68) ?hr ?_; (case hd => rfl); (case hg => rfl); (case hr => first | (go_simp; done) | (go_simp; rfl)); intro gb555 hg w4 hbox hb; have BK555 := Aside0.mk (hbox); have GW555 := gs_ hg; have GE555 := gs_ hg; replace HB := hbs_ hb; clear hb hbox hg; have hcz5 := blk_cell BK555.out; have hfz5 := blk_frozen BK555.out) | ((with_reducible refine gate_callee (f := 90) rfl ?_); refine goesC_ (some 8) Try.func90 #[.int .i64 (l0_0.length : Int), .int .i64 1, .int .i64 40] ?_; (with_reducible refine (spec_l01In.calls (l0_0.length : Int) 1 40 true _ A2.out).mono ?_); rintro e w' ⟨rfl, ⟨nd, rfl⟩⟩; refine ⟨_, rfl, ?_⟩))
  go_loopg [3] k (fun kq v3 w' => ∃ (x3_1 : Int), v3 = .int .i64 x3_1 ∧ Aside0 (spec_PolicyOk.l0 kq x3_1 l0_0 = some r) ∧ Aside0 (kq ≤ k) ∧ Aside0 (w'.heap[gb555]? = some (.cells #[(.slice A0_0 l0_0.length c0_0)] 68 (0, 0))) ∧ Aside0 (Below w.heap.size w w'))
  case atStart => exact ⟨(0), (by first | rfl | (simp; done) | (simp [*]; done)), H', ⟨Nat.le_refl _⟩, ⟨bk_ BK555⟩, ⟨bl_⟩⟩
  case round =>
   clear H'
   try clear c1
   try clear p2
   try clear c3
   try clear hcz5
   try clear hfz5
   obtain ⟨x3_1, rfl, HA, HK1, BK555, HB⟩ := hrel
   cases gk with
   | zero => exact absurd HA.out (by simp [spec_PolicyOk.l0])
   | succ k1 =>
    have H := HA.out
    clear HA
    simp only [spec_PolicyOk.l0] at H
    by_cases c6 : x3_1 < (l0_0.length : Int)
    ·rw [if_pos c6] at H
     have c6b0 : decide (x3_1 < (l0_0.length : Int)) = true := decide_eq_true c6
     clear c6
     by_cases c7 : 0 ≤ x3_1
     ·rw [if_pos c7] at H
      have c7b0 : decide (0 ≤ x3_1) = true := decide_eq_true c7
      clear c7
      by_cases c8 : ((rd_T71 l0_0 x3_1).f0) = 1
      ·rw [if_pos c8] at H
       have c8b0 : (((rd_T71 l0_0 x3_1).f0) == 1) = true := beq_iff_eq.mpr c8
       have c8b1 : (((rd_T71 l0_0 x3_1).f0) != 1) = false := bne_eq_false_iff_eq.mpr c8
       clear c8
       obtain ⟨t559, A9, H⟩ := bindE_ H
       by_cases c10 : t559 = true
       ·subst c10
        replace H := ite_t_ H
        by_cases c11 : ((rd_T71 l0_0 x3_1).f2) = 0
        ·rw [if_pos c11] at H
         have c11b0 : (((rd_T71 l0_0 x3_1).f2) == 0) = true := beq_iff_eq.mpr c11
         have c11b1 : (((rd_T71 l0_0 x3_1).f2) != 0) = false := bne_eq_false_iff_eq.mpr c11
         clear c11
         by_cases c12 : ((rd_T71 l0_0 x3_1).f3) = 0
         ·rw [if_pos c12] at H
          have c12b0 : (((rd_T71 l0_0 x3_1).f3) == 0) = true := beq_iff_eq.mpr c12
          have c12b1 : (((rd_T71 l0_0 x3_1).f3) != 0) = false := bne_eq_false_iff_eq.mpr c12
          clear c12
          have H' := Aside0.mk H
          clear H
          have hcz13 := blk_cell BK555.out
          have hfz13 := blk_frozen BK555.out
          have p557 : 0 ≤ (x3_1 : Int) := of_decide_eq_true (by first | (with_reducible assumption) | assumption)
          have q557 : x3_1 < (l0_0.length : Int) := of_decide_eq_true (by first | (with_reducible assumption) | assumption)
          obtain ⟨ad557, e557, hx557_0, hx557_1, hx557_2, hx557_3, hx557_4⟩ := at_T71 (Kd.C_below HR0_0.out HB.out) x3_1 p557 q557
          cases e557
          replace p557 := eq_true p557
          replace q557 := eq_true q557
          go_wp2_with (first | ((with_reducible refine gate_dst (N := 4) rfl ?_); refine box_event ?hg (N := 4) ?hd (cs := #[.int .i64 0, .int .i64 0, .int .i64 0, .int .i64 0, .int .i64 0]) (t := 71) ?hr ?_; (case hd => rfl); (case hg => rfl); (case hr => first | (go_simp; done) | (go_simp; rfl)); intro gb558 hg w14 hbox hb; have BK558 := Aside0.mk (hbox); have GW558 := gs_ hg; have GE558 := gs_ hg; replace HB := hbs_ hb; have NB555_558 := Aside0.mk ((by rw [hg]; exact Nat.ne_of_lt (blk_lt (g := gb555) (o := .cells #[.slice (some ad557) l0_0.length c0_0] 68 (0, 0)) (bk_ BK555)) : gb555 ≠ gb558)); have NB558_555 := Aside0.mk ((by rw [hg]; exact Nat.ne_of_gt (blk_lt (g := gb555) (o := .cells #[.slice (some ad557) l0_0.length c0_0] 68 (0, 0)) (bk_ BK555)) : gb558 ≠ gb555)); replace BK555 := bkb_ BK555 hb; clear hb hbox hg; have hnb15 := NB558_555.out; have hnc15 := NB555_558.out; have hcz16 := blk_cell BK558.out; have hfz16 := blk_frozen BK558.out) | ((with_reducible refine gate_callee (f := 136) rfl ?_); refine goesC_ (some 28) Try.func136 #[.agg #[.int .i64 ((rd_T71 l0_0 x3_1).f1.f0), .int .i64 ((rd_T71 l0_0 x3_1).f1.f1)]] ?_; (with_reducible refine (spec_RoleOk.calls ((rd_T71 l0_0 x3_1).f1.f0) ((rd_T71 l0_0 x3_1).f1.f1) true _ A9.out).mono ?_); rintro e w17 ⟨rfl, hb⟩; refine ⟨_, rfl, ?_⟩; replace BK555 := Aside0.mk (blk_below (g := gb555) (o := .cells #[.slice (some ad557) l0_0.length c0_0] 68 (0, 0)) (bk_ BK555) hb); replace BK558 := Aside0.mk (blk_below (g := gb558) (o := .cells #[.int .i64 ((rd_T71 l0_0 x3_1).f0), .int .i64 ((rd_T71 l0_0 x3_1).f1.f0), .int .i64 ((rd_T71 l0_0 x3_1).f1.f1), .int .i64 ((rd_T71 l0_0 x3_1).f2), .int .i64 ((rd_T71 l0_0 x3_1).f3)] 71 (0, 0)) (bk_ BK558) hb); replace HB := hbs_ hb; clear hb; have hcz18 := blk_cell BK558.out; have hfz18 := blk_frozen BK558.out))
          go_roundg k1
          case measure => have := HK1.out; omega
          case rel => exact ⟨(wrap64 (x3_1 + 1)), (by first | rfl | (simp; done) | (simp [*]; done)), H', ⟨by have := HK1.out; omega⟩, ⟨bk_ BK555⟩, ⟨bl_⟩⟩
         ·rw [if_neg c12] at H
          have c12b0 : (((rd_T71 l0_0 x3_1).f3) == 0) = false := beq_eq_false_iff_ne.mpr c12
          have c12b1 : (((rd_T71 l0_0 x3_1).f3) != 0) = true := bne_iff_ne.mpr c12
          obtain rfl := Option.some.inj H
          have hcz19 := blk_cell BK555.out
          have hfz19 := blk_frozen BK555.out
          have p557 : 0 ≤ (x3_1 : Int) := of_decide_eq_true (by first | (with_reducible assumption) | assumption)
          have q557 : x3_1 < (l0_0.length : Int) := of_decide_eq_true (by first | (with_reducible assumption) | assumption)
          obtain ⟨ad557, e557, hx557_0, hx557_1, hx557_2, hx557_3, hx557_4⟩ := at_T71 (Kd.C_below HR0_0.out HB.out) x3_1 p557 q557
          cases e557
          replace p557 := eq_true p557
          replace q557 := eq_true q557
          go_wp2_with (first | ((with_reducible refine gate_dst (N := 4) rfl ?_); refine box_event ?hg (N := 4) ?hd (cs := #[.int .i64 0, .int .i64 0, .int .i64 0, .int .i64 0, .int .i64 0]) (t := 71) ?hr ?_; (case hd => rfl); (case hg => rfl); (case hr => first | (go_simp; done) | (go_simp; rfl)); intro gb558 hg w20 hbox hb; have BK558 := Aside0.mk (hbox); have GW558 := gs_ hg; have GE558 := gs_ hg; replace HB := hbs_ hb; have NB555_558 := Aside0.mk ((by rw [hg]; exact Nat.ne_of_lt (blk_lt (g := gb555) (o := .cells #[.slice (some ad557) l0_0.length c0_0] 68 (0, 0)) (bk_ BK555)) : gb555 ≠ gb558)); have NB558_555 := Aside0.mk ((by rw [hg]; exact Nat.ne_of_gt (blk_lt (g := gb555) (o := .cells #[.slice (some ad557) l0_0.length c0_0] 68 (0, 0)) (bk_ BK555)) : gb558 ≠ gb555)); replace BK555 := bkb_ BK555 hb; clear hb hbox hg; have hnb21 := NB558_555.out; have hnc21 := NB555_558.out; have hcz22 := blk_cell BK558.out; have hfz22 := blk_frozen BK558.out) | ((with_reducible refine gate_callee (f := 136) rfl ?_); refine goesC_ (some 28) Try.func136 #[.agg #[.int .i64 ((rd_T71 l0_0 x3_1).f1.f0), .int .i64 ((rd_T71 l0_0 x3_1).f1.f1)]] ?_; (with_reducible refine (spec_RoleOk.calls ((rd_T71 l0_0 x3_1).f1.f0) ((rd_T71 l0_0 x3_1).f1.f1) true _ A9.out).mono ?_); rintro e w23 ⟨rfl, hb⟩; refine ⟨_, rfl, ?_⟩; replace BK555 := Aside0.mk (blk_below (g := gb555) (o := .cells #[.slice (some ad557) l0_0.length c0_0] 68 (0, 0)) (bk_ BK555) hb); replace BK558 := Aside0.mk (blk_below (g := gb558) (o := .cells #[.int .i64 ((rd_T71 l0_0 x3_1).f0), .int .i64 ((rd_T71 l0_0 x3_1).f1.f0), .int .i64 ((rd_T71 l0_0 x3_1).f1.f1), .int .i64 ((rd_T71 l0_0 x3_1).f2), .int .i64 ((rd_T71 l0_0 x3_1).f3)] 71 (0, 0)) (bk_ BK558) hb); replace HB := hbs_ hb; clear hb; have hcz24 := blk_cell BK558.out; have hfz24 := blk_frozen BK558.out))
          go_ret
          exact ⟨eq_, bl_⟩
        ·rw [if_neg c11] at H
         have c11b0 : (((rd_T71 l0_0 x3_1).f2) == 0) = false := beq_eq_false_iff_ne.mpr c11
         have c11b1 : (((rd_T71 l0_0 x3_1).f2) != 0) = true := bne_iff_ne.mpr c11
         obtain rfl := Option.some.inj H
         have hcz25 := blk_cell BK555.out
         have hfz25 := blk_frozen BK555.out
         have p557 : 0 ≤ (x3_1 : Int) := of_decide_eq_true (by first | (with_reducible assumption) | assumption)
         have q557 : x3_1 < (l0_0.length : Int) := of_decide_eq_true (by first | (with_reducible assumption) | assumption)
         obtain ⟨ad557, e557, hx557_0, hx557_1, hx557_2, hx557_3, hx557_4⟩ := at_T71 (Kd.C_below HR0_0.out HB.out) x3_1 p557 q557
         cases e557
         replace p557 := eq_true p557
         replace q557 := eq_true q557
         go_wp2_with (first | ((with_reducible refine gate_dst (N := 4) rfl ?_); refine box_event ?hg (N := 4) ?hd (cs := #[.int .i64 0, .int .i64 0, .int .i64 0, .int .i64 0, .int .i64 0]) (t := 71) ?hr ?_; (case hd => rfl); (case hg => rfl); (case hr => first | (go_simp; done) | (go_simp; rfl)); intro gb558 hg w26 hbox hb; have BK558 := Aside0.mk (hbox); have GW558 := gs_ hg; have GE558 := gs_ hg; replace HB := hbs_ hb; have NB555_558 := Aside0.mk ((by rw [hg]; exact Nat.ne_of_lt (blk_lt (g := gb555) (o := .cells #[.slice (some ad557) l0_0.length c0_0] 68 (0, 0)) (bk_ BK555)) : gb555 ≠ gb558)); have NB558_555 := Aside0.mk ((by rw [hg]; exact Nat.ne_of_gt (blk_lt (g := gb555) (o := .cells #[.slice (some ad557) l0_0.length c0_0] 68 (0, 0)) (bk_ BK555)) : gb558 ≠ gb555)); replace BK555 := bkb_ BK555 hb; clear hb hbox hg; have hnb27 := NB558_555.out; have hnc27 := NB555_558.out; have hcz28 := blk_cell BK558.out; have hfz28 := blk_frozen BK558.out) | ((with_reducible refine gate_callee (f := 136) rfl ?_); refine goesC_ (some 28) Try.func136 #[.agg #[.int .i64 ((rd_T71 l0_0 x3_1).f1.f0), .int .i64 ((rd_T71 l0_0 x3_1).f1.f1)]] ?_; (with_reducible refine (spec_RoleOk.calls ((rd_T71 l0_0 x3_1).f1.f0) ((rd_T71 l0_0 x3_1).f1.f1) true _ A9.out).mono ?_); rintro e w29 ⟨rfl, hb⟩; refine ⟨_, rfl, ?_⟩; replace BK555 := Aside0.mk (blk_below (g := gb555) (o := .cells #[.slice (some ad557) l0_0.length c0_0] 68 (0, 0)) (bk_ BK555) hb); replace BK558 := Aside0.mk (blk_below (g := gb558) (o := .cells #[.int .i64 ((rd_T71 l0_0 x3_1).f0), .int .i64 ((rd_T71 l0_0 x3_1).f1.f0), .int .i64 ((rd_T71 l0_0 x3_1).f1.f1), .int .i64 ((rd_T71 l0_0 x3_1).f2), .int .i64 ((rd_T71 l0_0 x3_1).f3)] 71 (0, 0)) (bk_ BK558) hb); replace HB := hbs_ hb; clear hb; have hcz30 := blk_cell BK558.out; have hfz30 := blk_frozen BK558.out))
         go_ret
         exact ⟨eq_, bl_⟩
       ·replace c10 := Bool.eq_false_iff.mpr c10
        subst c10
        replace H := ite_f_ H
        obtain rfl := Option.some.inj H
        have hcz31 := blk_cell BK555.out
        have hfz31 := blk_frozen BK555.out
        have p557 : 0 ≤ (x3_1 : Int) := of_decide_eq_true (by first | (with_reducible assumption) | assumption)
        have q557 : x3_1 < (l0_0.length : Int) := of_decide_eq_true (by first | (with_reducible assumption) | assumption)
        obtain ⟨ad557, e557, hx557_0, hx557_1, hx557_2, hx557_3, hx557_4⟩ := at_T71 (Kd.C_below HR0_0.out HB.out) x3_1 p557 q557
        cases e557
        replace p557 := eq_true p557
        replace q557 := eq_true q557
        go_wp2_with (first | ((with_reducible refine gate_dst (N := 4) rfl ?_); refine box_event ?hg (N := 4) ?hd (cs := #[.int .i64 0, .int .i64 0, .int .i64 0, .int .i64 0, .int .i64 0]) (t := 71) ?hr ?_; (case hd => rfl); (case hg => rfl); (case hr => first | (go_simp; done) | (go_simp; rfl)); intro gb558 hg w32 hbox hb; have BK558 := Aside0.mk (hbox); have GW558 := gs_ hg; have GE558 := gs_ hg; replace HB := hbs_ hb; have NB555_558 := Aside0.mk ((by rw [hg]; exact Nat.ne_of_lt (blk_lt (g := gb555) (o := .cells #[.slice (some ad557) l0_0.length c0_0] 68 (0, 0)) (bk_ BK555)) : gb555 ≠ gb558)); have NB558_555 := Aside0.mk ((by rw [hg]; exact Nat.ne_of_gt (blk_lt (g := gb555) (o := .cells #[.slice (some ad557) l0_0.length c0_0] 68 (0, 0)) (bk_ BK555)) : gb558 ≠ gb555)); replace BK555 := bkb_ BK555 hb; clear hb hbox hg; have hnb33 := NB558_555.out; have hnc33 := NB555_558.out; have hcz34 := blk_cell BK558.out; have hfz34 := blk_frozen BK558.out) | ((with_reducible refine gate_callee (f := 136) rfl ?_); refine goesC_ (some 28) Try.func136 #[.agg #[.int .i64 ((rd_T71 l0_0 x3_1).f1.f0), .int .i64 ((rd_T71 l0_0 x3_1).f1.f1)]] ?_; (with_reducible refine (spec_RoleOk.calls ((rd_T71 l0_0 x3_1).f1.f0) ((rd_T71 l0_0 x3_1).f1.f1) false _ A9.out).mono ?_); rintro e w35 ⟨rfl, hb⟩; refine ⟨_, rfl, ?_⟩; replace BK555 := Aside0.mk (blk_below (g := gb555) (o := .cells #[.slice (some ad557) l0_0.length c0_0] 68 (0, 0)) (bk_ BK555) hb); replace BK558 := Aside0.mk (blk_below (g := gb558) (o := .cells #[.int .i64 ((rd_T71 l0_0 x3_1).f0), .int .i64 ((rd_T71 l0_0 x3_1).f1.f0), .int .i64 ((rd_T71 l0_0 x3_1).f1.f1), .int .i64 ((rd_T71 l0_0 x3_1).f2), .int .i64 ((rd_T71 l0_0 x3_1).f3)] 71 (0, 0)) (bk_ BK558) hb); replace HB := hbs_ hb; clear hb))
        go_ret
        exact ⟨eq_, bl_⟩
      ·rw [if_neg c8] at H
       have c8b0 : (((rd_T71 l0_0 x3_1).f0) == 1) = false := beq_eq_false_iff_ne.mpr c8
       have c8b1 : (((rd_T71 l0_0 x3_1).f0) != 1) = true := bne_iff_ne.mpr c8
       have HC36 := Aside0.mk H
       clear H
       have hcz37 := blk_cell BK555.out
       have hfz37 := blk_frozen BK555.out
       have p557 : 0 ≤ (x3_1 : Int) := of_decide_eq_true (by first | (with_reducible assumption) | assumption)
       have q557 : x3_1 < (l0_0.length : Int) := of_decide_eq_true (by first | (with_reducible assumption) | assumption)
       obtain ⟨ad557, e557, hx557_0, hx557_1, hx557_2, hx557_3, hx557_4⟩ := at_T71 (Kd.C_below HR0_0.out HB.out) x3_1 p557 q557
       cases e557
       replace p557 := eq_true p557
       replace q557 := eq_true q557
       go_upto_if 40 with (first | ((with_reducible refine gate_dst (N := 4) rfl ?_); refine box_event ?hg (N := 4) ?hd (cs := #[.int .i64 0, .int .i64 0, .int .i64 0, .int .i64 0, .int .i64 0]) (t := 71) ?hr ?_; (case hd => rfl); (case hg => rfl); (case hr => first | (go_simp; done) | (go_simp; rfl)); intro gb558 hg w38 hbox hb; have BK558 := Aside0.mk (hbox); have GW558 := gs_ hg; have GE558 := gs_ hg; replace HB := hbs_ hb; have NB555_558 := Aside0.mk ((by rw [hg]; exact Nat.ne_of_lt (blk_lt (g := gb555) (o := .cells #[.slice (some ad557) l0_0.length c0_0] 68 (0, 0)) (bk_ BK555)) : gb555 ≠ gb558)); have NB558_555 := Aside0.mk ((by rw [hg]; exact Nat.ne_of_gt (blk_lt (g := gb555) (o := .cells #[.slice (some ad557) l0_0.length c0_0] 68 (0, 0)) (bk_ BK555)) : gb558 ≠ gb555)); replace BK555 := bkb_ BK555 hb; clear hb hbox hg; have hnb39 := NB558_555.out; have hnc39 := NB555_558.out; have hcz40 := blk_cell BK558.out; have hfz40 := blk_frozen BK558.out))
       (try simp only [Act.put, List.setIfInBounds_toArray, List.set_cons_zero, List.set_cons_succ])
       go_cut [40] (fun v40 wc => ∃ (kq : Nat) (x40_35 : Bool), v40 = .bool x40_35 ∧ Aside0 (spec_PolicyOk.j1 kq x3_1 ((rd_T71 l0_0 x3_1).f0) x40_35 l0_0 ((rd_T71 l0_0 x3_1).f0) ((rd_T71 l0_0 x3_1).f1.f0) ((rd_T71 l0_0 x3_1).f1.f1) ((rd_T71 l0_0 x3_1).f2) ((rd_T71 l0_0 x3_1).f3) = some r) ∧ Aside0 (kq ≤ k1) ∧ Aside0 (wc.heap[gb555]? = some (.cells #[(.slice (some ad557) l0_0.length c0_0)] 68 (0, 0))) ∧ Aside0 (wc.heap[gb558]? = some (.cells #[.int .i64 ((rd_T71 l0_0 x3_1).f0), .int .i64 ((rd_T71 l0_0 x3_1).f1.f0), .int .i64 ((rd_T71 l0_0 x3_1).f1.f1), .int .i64 ((rd_T71 l0_0 x3_1).f2), .int .i64 ((rd_T71 l0_0 x3_1).f3)] 71 (0, 0))) ∧ Aside0 (Below w.heap.size w wc))
       case first =>
        have H := HC36.out
        clear HC36
        by_cases c41 : ((rd_T71 l0_0 x3_1).f0) = 2
        ·rw [if_pos c41] at H
         have c41b0 : (((rd_T71 l0_0 x3_1).f0) == 2) = true := beq_iff_eq.mpr c41
         have c41b1 : (((rd_T71 l0_0 x3_1).f0) != 2) = false := bne_eq_false_iff_eq.mpr c41
         clear c41
         (first | rw [c41b0] | (simp only [i64_w, i32_w]; rw [c41b0]) | skip)
         have H' := Aside0.mk H
         clear H
         go_wp2
         go_meet
         case rel => exact ⟨_, ((((rd_T71 l0_0 x3_1).f0) == 2)), (by first | rfl | (simp; done) | (simp [*]; done)), H', ⟨by have := HK1.out; first | omega | exact Nat.le_refl _⟩, ⟨bk_ BK555⟩, ⟨bk_ BK558⟩, ⟨bl_⟩⟩
        ·rw [if_neg c41] at H
         have c41b0 : (((rd_T71 l0_0 x3_1).f0) == 2) = false := beq_eq_false_iff_ne.mpr c41
         have c41b1 : (((rd_T71 l0_0 x3_1).f0) != 2) = true := bne_iff_ne.mpr c41
         (first | rw [c41b0] | (simp only [i64_w, i32_w]; rw [c41b0]) | skip)
         have H' := Aside0.mk H
         clear H
         go_wp2
         go_meet
         case rel => exact ⟨_, ((((rd_T71 l0_0 x3_1).f0) == 3)), (by first | rfl | (simp; done) | (simp [*]; done)), H', ⟨by have := HK1.out; first | omega | exact Nat.le_refl _⟩, ⟨bk_ BK555⟩, ⟨bk_ BK558⟩, ⟨bl_⟩⟩
       case rest =>
        clear HC36
        try clear c1
        try clear c2
        try clear p2
        try clear c3
        try clear c4
        try clear p5
        try clear q5
        try clear hx5
        try clear c6
        try clear c6b0
        try clear p6
        try clear c7
        try clear c7b0
        try clear c8
        try clear c8b0
        try clear c8b1
        try clear c9
        try clear c10
        try clear c11
        try clear c11b0
        try clear c11b1
        try clear c12
        try clear c12b0
        try clear c12b1
        try clear c13
        try clear c15
        try clear c21
        try clear c27
        try clear c33
        try clear c39
        try clear c41
        try clear c41b0
        try clear c41b1
        try clear hcz13
        try clear hcz16
        try clear hcz18
        try clear hcz19
        try clear hcz22
        try clear hcz24
        try clear hcz25
        try clear hcz28
        try clear hcz30
        try clear hcz31
        try clear hcz34
        try clear hcz37
        try clear hcz40
        try clear hcz5
        try clear hfz13
        try clear hfz16
        try clear hfz18
        try clear hfz19
        try clear hfz22
        try clear hfz24
        try clear hfz25
        try clear hfz28
        try clear hfz30
        try clear hfz31
        try clear hfz34
        try clear hfz37
        try clear hfz40
        try clear hfz5
        try clear hx557_0
        try clear hx557_1
        try clear hx557_2
        try clear hx557_3
        try clear hx557_4
        try clear p2
        try clear p557
        try clear q557
        obtain ⟨kq, x40_35, rfl, HA, HJ35, BK555, BK558, HB⟩ := hcut
        cases kq with
        | zero => exact absurd HA.out (by simp [spec_PolicyOk.j1])
        | succ kj35 =>
         have H := HA.out
         clear HA
         simp only [spec_PolicyOk.j1] at H
         by_cases c42 : x40_35 = true
         ·subst c42
          replace H := ite_t_ H
          obtain ⟨t560, A43, H⟩ := bindE_ H
          by_cases c44 : t560 = true
          ·subst c44
           replace H := ite_t_ H
           obtain ⟨t561, A45, H⟩ := bindE_ H
           by_cases c46 : t561 = true
           ·subst c46
            replace H := ite_t_ H
            obtain ⟨t562, A47, H⟩ := bindE_ H
            by_cases c48 : t562 = true
            ·subst c48
             replace H := ite_t_ H
             have H' := Aside0.mk H
             clear H
             have hnb49 := NB558_555.out
             have hnc49 := NB555_558.out
             have hcz50 := blk_cell BK558.out
             have hfz50 := blk_frozen BK558.out
             go_wp2_with (first | ((with_reducible refine gate_callee (f := 137) rfl ?_); refine goesC_ (some 45) Try.func137 #[.agg #[.int .i64 ((rd_T71 l0_0 x3_1).f1.f0), .int .i64 ((rd_T71 l0_0 x3_1).f1.f1)]] ?_; (with_reducible refine (spec_l21None.calls ((rd_T71 l0_0 x3_1).f1.f0) ((rd_T71 l0_0 x3_1).f1.f1) true _ A43.out).mono ?_); rintro e w51 ⟨rfl, hb⟩; refine ⟨_, rfl, ?_⟩; replace BK555 := bkb_ BK555 hb; replace BK558 := bkb_ BK558 hb; replace HB := hbs_ hb; clear hb; have hcz52 := blk_cell BK558.out; have hfz52 := blk_frozen BK558.out) | (go_at_call 90; (with_reducible refine (spec_l01In.calls ((rd_T71 l0_0 x3_1).f2) 0 (wrap64 (x3_1 - 1)) true _ A45.out).mono ?_); rintro e w' ⟨rfl, ⟨nd, rfl⟩⟩) | (go_at_call 90; (with_reducible refine (spec_l01In.calls ((rd_T71 l0_0 x3_1).f3) 0 (wrap64 (x3_1 - 1)) true _ A47.out).mono ?_); rintro e w' ⟨rfl, ⟨nd, rfl⟩⟩))
             go_roundg kj35
             case measure => have := HK1.out; have := HJ35.out; omega
             case rel => exact ⟨(wrap64 (x3_1 + 1)), (by first | rfl | (simp; done) | (simp [*]; done)), H', ⟨by have := HK1.out; have := HJ35.out; omega⟩, ⟨bk_ BK555⟩, ⟨bl_⟩⟩
            ·replace c48 := Bool.eq_false_iff.mpr c48
             subst c48
             replace H := ite_f_ H
             obtain rfl := Option.some.inj H
             have hnb53 := NB558_555.out
             have hnc53 := NB555_558.out
             have hcz54 := blk_cell BK558.out
             have hfz54 := blk_frozen BK558.out
             go_wp2_with (first | ((with_reducible refine gate_callee (f := 137) rfl ?_); refine goesC_ (some 45) Try.func137 #[.agg #[.int .i64 ((rd_T71 l0_0 x3_1).f1.f0), .int .i64 ((rd_T71 l0_0 x3_1).f1.f1)]] ?_; (with_reducible refine (spec_l21None.calls ((rd_T71 l0_0 x3_1).f1.f0) ((rd_T71 l0_0 x3_1).f1.f1) true _ A43.out).mono ?_); rintro e w55 ⟨rfl, hb⟩; refine ⟨_, rfl, ?_⟩; replace BK555 := bkb_ BK555 hb; replace BK558 := bkb_ BK558 hb; replace HB := hbs_ hb; clear hb; have hcz56 := blk_cell BK558.out; have hfz56 := blk_frozen BK558.out) | (go_at_call 90; (with_reducible refine (spec_l01In.calls ((rd_T71 l0_0 x3_1).f2) 0 (wrap64 (x3_1 - 1)) true _ A45.out).mono ?_); rintro e w' ⟨rfl, ⟨nd, rfl⟩⟩) | (go_at_call 90; (with_reducible refine (spec_l01In.calls ((rd_T71 l0_0 x3_1).f3) 0 (wrap64 (x3_1 - 1)) false _ A47.out).mono ?_); rintro e w' ⟨rfl, ⟨nd, rfl⟩⟩))
             go_ret
             exact ⟨eq_, bl_⟩
           ·replace c46 := Bool.eq_false_iff.mpr c46
            subst c46
            replace H := ite_f_ H
            obtain rfl := Option.some.inj H
            have hnb57 := NB558_555.out
            have hnc57 := NB555_558.out
            have hcz58 := blk_cell BK558.out
            have hfz58 := blk_frozen BK558.out
            go_wp2_with (first | ((with_reducible refine gate_callee (f := 137) rfl ?_); refine goesC_ (some 45) Try.func137 #[.agg #[.int .i64 ((rd_T71 l0_0 x3_1).f1.f0), .int .i64 ((rd_T71 l0_0 x3_1).f1.f1)]] ?_; (with_reducible refine (spec_l21None.calls ((rd_T71 l0_0 x3_1).f1.f0) ((rd_T71 l0_0 x3_1).f1.f1) true _ A43.out).mono ?_); rintro e w59 ⟨rfl, hb⟩; refine ⟨_, rfl, ?_⟩; replace BK555 := bkb_ BK555 hb; replace BK558 := bkb_ BK558 hb; replace HB := hbs_ hb; clear hb; have hcz60 := blk_cell BK558.out; have hfz60 := blk_frozen BK558.out) | (go_at_call 90; (with_reducible refine (spec_l01In.calls ((rd_T71 l0_0 x3_1).f2) 0 (wrap64 (x3_1 - 1)) false _ A45.out).mono ?_); rintro e w' ⟨rfl, ⟨nd, rfl⟩⟩))
            go_ret
            exact ⟨eq_, bl_⟩
          ·replace c44 := Bool.eq_false_iff.mpr c44
           subst c44
           replace H := ite_f_ H
           obtain rfl := Option.some.inj H
           have hnb61 := NB558_555.out
           have hnc61 := NB555_558.out
           have hcz62 := blk_cell BK558.out
           have hfz62 := blk_frozen BK558.out
           go_wp2_with (first | ((with_reducible refine gate_callee (f := 137) rfl ?_); refine goesC_ (some 45) Try.func137 #[.agg #[.int .i64 ((rd_T71 l0_0 x3_1).f1.f0), .int .i64 ((rd_T71 l0_0 x3_1).f1.f1)]] ?_; (with_reducible refine (spec_l21None.calls ((rd_T71 l0_0 x3_1).f1.f0) ((rd_T71 l0_0 x3_1).f1.f1) false _ A43.out).mono ?_); rintro e w63 ⟨rfl, hb⟩; refine ⟨_, rfl, ?_⟩; replace BK555 := bkb_ BK555 hb; replace BK558 := bkb_ BK558 hb; replace HB := hbs_ hb; clear hb))
           go_ret
           exact ⟨eq_, bl_⟩
         ·replace c42 := Bool.eq_false_iff.mpr c42
          subst c42
          replace H := ite_f_ H
          by_cases c64 : ((rd_T71 l0_0 x3_1).f0) = 4
          ·rw [if_pos c64] at H
           have c64b0 : (((rd_T71 l0_0 x3_1).f0) == 4) = true := beq_iff_eq.mpr c64
           have c64b1 : (((rd_T71 l0_0 x3_1).f0) != 4) = false := bne_eq_false_iff_eq.mpr c64
           clear c64
           obtain ⟨t563, A65, H⟩ := bindE_ H
           by_cases c66 : t563 = true
           ·subst c66
            replace H := ite_t_ H
            obtain ⟨t564, A67, H⟩ := bindE_ H
            by_cases c68 : t564 = true
            ·subst c68
             replace H := ite_t_ H
             by_cases c69 : ((rd_T71 l0_0 x3_1).f3) = 0
             ·rw [if_pos c69] at H
              have c69b0 : (((rd_T71 l0_0 x3_1).f3) == 0) = true := beq_iff_eq.mpr c69
              have c69b1 : (((rd_T71 l0_0 x3_1).f3) != 0) = false := bne_eq_false_iff_eq.mpr c69
              clear c69
              have H' := Aside0.mk H
              clear H
              have hnb70 := NB558_555.out
              have hnc70 := NB555_558.out
              have hcz71 := blk_cell BK558.out
              have hfz71 := blk_frozen BK558.out
              go_wp2_with (first | ((with_reducible refine gate_callee (f := 137) rfl ?_); refine goesC_ (some 67) Try.func137 #[.agg #[.int .i64 ((rd_T71 l0_0 x3_1).f1.f0), .int .i64 ((rd_T71 l0_0 x3_1).f1.f1)]] ?_; (with_reducible refine (spec_l21None.calls ((rd_T71 l0_0 x3_1).f1.f0) ((rd_T71 l0_0 x3_1).f1.f1) true _ A65.out).mono ?_); rintro e w72 ⟨rfl, hb⟩; refine ⟨_, rfl, ?_⟩; replace BK555 := bkb_ BK555 hb; replace BK558 := bkb_ BK558 hb; replace HB := hbs_ hb; clear hb; have hcz73 := blk_cell BK558.out; have hfz73 := blk_frozen BK558.out) | (go_at_call 90; (with_reducible refine (spec_l01In.calls ((rd_T71 l0_0 x3_1).f2) 0 (wrap64 (x3_1 - 1)) true _ A67.out).mono ?_); rintro e w' ⟨rfl, ⟨nd, rfl⟩⟩))
              go_roundg kj35
              case measure => have := HK1.out; have := HJ35.out; omega
              case rel => exact ⟨(wrap64 (x3_1 + 1)), (by first | rfl | (simp; done) | (simp [*]; done)), H', ⟨by have := HK1.out; have := HJ35.out; omega⟩, ⟨bk_ BK555⟩, ⟨bl_⟩⟩
             ·rw [if_neg c69] at H
              have c69b0 : (((rd_T71 l0_0 x3_1).f3) == 0) = false := beq_eq_false_iff_ne.mpr c69
              have c69b1 : (((rd_T71 l0_0 x3_1).f3) != 0) = true := bne_iff_ne.mpr c69
              obtain rfl := Option.some.inj H
              have hnb74 := NB558_555.out
              have hnc74 := NB555_558.out
              have hcz75 := blk_cell BK558.out
              have hfz75 := blk_frozen BK558.out
              go_wp2_with (first | ((with_reducible refine gate_callee (f := 137) rfl ?_); refine goesC_ (some 67) Try.func137 #[.agg #[.int .i64 ((rd_T71 l0_0 x3_1).f1.f0), .int .i64 ((rd_T71 l0_0 x3_1).f1.f1)]] ?_; (with_reducible refine (spec_l21None.calls ((rd_T71 l0_0 x3_1).f1.f0) ((rd_T71 l0_0 x3_1).f1.f1) true _ A65.out).mono ?_); rintro e w76 ⟨rfl, hb⟩; refine ⟨_, rfl, ?_⟩; replace BK555 := bkb_ BK555 hb; replace BK558 := bkb_ BK558 hb; replace HB := hbs_ hb; clear hb; have hcz77 := blk_cell BK558.out; have hfz77 := blk_frozen BK558.out) | (go_at_call 90; (with_reducible refine (spec_l01In.calls ((rd_T71 l0_0 x3_1).f2) 0 (wrap64 (x3_1 - 1)) true _ A67.out).mono ?_); rintro e w' ⟨rfl, ⟨nd, rfl⟩⟩))
              go_ret
              exact ⟨eq_, bl_⟩
            ·replace c68 := Bool.eq_false_iff.mpr c68
             subst c68
             replace H := ite_f_ H
             obtain rfl := Option.some.inj H
             have hnb78 := NB558_555.out
             have hnc78 := NB555_558.out
             have hcz79 := blk_cell BK558.out
             have hfz79 := blk_frozen BK558.out
             go_wp2_with (first | ((with_reducible refine gate_callee (f := 137) rfl ?_); refine goesC_ (some 67) Try.func137 #[.agg #[.int .i64 ((rd_T71 l0_0 x3_1).f1.f0), .int .i64 ((rd_T71 l0_0 x3_1).f1.f1)]] ?_; (with_reducible refine (spec_l21None.calls ((rd_T71 l0_0 x3_1).f1.f0) ((rd_T71 l0_0 x3_1).f1.f1) true _ A65.out).mono ?_); rintro e w80 ⟨rfl, hb⟩; refine ⟨_, rfl, ?_⟩; replace BK555 := bkb_ BK555 hb; replace BK558 := bkb_ BK558 hb; replace HB := hbs_ hb; clear hb; have hcz81 := blk_cell BK558.out; have hfz81 := blk_frozen BK558.out) | (go_at_call 90; (with_reducible refine (spec_l01In.calls ((rd_T71 l0_0 x3_1).f2) 0 (wrap64 (x3_1 - 1)) false _ A67.out).mono ?_); rintro e w' ⟨rfl, ⟨nd, rfl⟩⟩))
             go_ret
             exact ⟨eq_, bl_⟩
           ·replace c66 := Bool.eq_false_iff.mpr c66
            subst c66
            replace H := ite_f_ H
            obtain rfl := Option.some.inj H
            have hnb82 := NB558_555.out
            have hnc82 := NB555_558.out
            have hcz83 := blk_cell BK558.out
            have hfz83 := blk_frozen BK558.out
            go_wp2_with (first | ((with_reducible refine gate_callee (f := 137) rfl ?_); refine goesC_ (some 67) Try.func137 #[.agg #[.int .i64 ((rd_T71 l0_0 x3_1).f1.f0), .int .i64 ((rd_T71 l0_0 x3_1).f1.f1)]] ?_; (with_reducible refine (spec_l21None.calls ((rd_T71 l0_0 x3_1).f1.f0) ((rd_T71 l0_0 x3_1).f1.f1) false _ A65.out).mono ?_); rintro e w84 ⟨rfl, hb⟩; refine ⟨_, rfl, ?_⟩; replace BK555 := bkb_ BK555 hb; replace BK558 := bkb_ BK558 hb; replace HB := hbs_ hb; clear hb))
            go_ret
            exact ⟨eq_, bl_⟩
          ·rw [if_neg c64] at H
           have c64b0 : (((rd_T71 l0_0 x3_1).f0) == 4) = false := beq_eq_false_iff_ne.mpr c64
           have c64b1 : (((rd_T71 l0_0 x3_1).f0) != 4) = true := bne_iff_ne.mpr c64
           obtain rfl := Option.some.inj H
           go_wp2
           go_ret
           exact ⟨eq_, bl_⟩
     ·rw [if_neg c7] at H
      exact absurd H (by simp)
    ·rw [if_neg c6] at H
     have c6b0 : decide (x3_1 < (l0_0.length : Int)) = false := decide_eq_false c6
     clear c6
     obtain rfl := Option.some.inj H
     have hcz85 := blk_cell BK555.out
     have hfz85 := blk_frozen BK555.out
     go_wp2
     go_ret
     exact ⟨eq_, bl_⟩
 ·replace c3 := Bool.eq_false_iff.mpr c3
  subst c3
  replace H := ite_f_ H
  obtain rfl := Option.some.inj H
  go_enter Try.func111, Try.ntmps111
  go_wp2_with (first | ((with_reducible refine gate_dst (N := 1) rfl ?_); refine box_event ?hg (N := 1) ?hd (cs := #[.slice A0_0 l0_0.length c0_0]) (t := 68) ?hr ?_; (case hd => rfl); (case hg => rfl); (case hr => first | (go_simp; done) | (go_simp; rfl)); intro gb555 hg w86 hbox hb; have BK555 := Aside0.mk (hbox); have GW555 := gs_ hg; have GE555 := gs_ hg; replace HB := hbs_ hb; clear hb hbox hg; have hcz87 := blk_cell BK555.out; have hfz87 := blk_frozen BK555.out) | ((with_reducible refine gate_callee (f := 90) rfl ?_); refine goesC_ (some 8) Try.func90 #[.int .i64 (l0_0.length : Int), .int .i64 1, .int .i64 40] ?_; (with_reducible refine (spec_l01In.calls (l0_0.length : Int) 1 40 false _ A2.out).mono ?_); rintro e w' ⟨rfl, ⟨nd, rfl⟩⟩; refine ⟨_, rfl, ?_⟩))
  go_ret
  exact ⟨eq_, bl_⟩
end Go.Proofs.Ytppdmcimddhbaaa.PC
