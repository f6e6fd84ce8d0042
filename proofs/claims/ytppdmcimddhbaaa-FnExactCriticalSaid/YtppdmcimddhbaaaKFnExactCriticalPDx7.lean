import Derived.Test.YtppdmcimddhbaaaKFnExactCriticalPDx0
import Derived.Test.YtppdmcimddhbaaaKFnExactCriticalPDx6
-- A text of this claim: written by the session's own program out of the translation (wip/tools). Lean checks it.
namespace Go.Proofs.Ytppdmcimddhbaaa.PD
open Go.RowKit Go.Proofs.YtppdmcimddhbaaaW.PrintWords Go.Proofs.YtppdmcimddhbaaaW.PrintLast Go.Proofs.YtppdmcimddhbaaaW.PrintMore
attribute [local go_sem] max2_int min2_int max_two min_two max_three min_three max_four min_four   -- for this text's walks alone
set_option linter.unusedVariables false
set_option linter.unusedSimpArgs false
def laws_eqCred.f (a0_0 : Int) (a0_1 : Int) (a0_2 : Int) (a0_3 : Int) (a0_4 : Int) (a0_5 : Int) (a0_6 : Int) (a0_7 : Int) (a0_8 : Int) (a0_9 : Int) (a1_0 : Int) (a1_1 : Int) (a1_2 : Int) (a1_3 : Int) (a1_4 : Int) (a1_5 : Int) (a1_6 : Int) (a1_7 : Int) (a1_8 : Int) (a1_9 : Int) : Option (Bool) := if a0_0 = a1_0 then ((laws_eqRole.f a0_1 a0_2 a1_1 a1_2).bind fun t264 => (if t264 = true then (if a0_3 = a1_3 then ((laws_eqRole.f a0_4 a0_5 a1_4 a1_5).bind fun t265 => (if t265 = true then ((laws_eqRole.f a0_6 a0_7 a1_6 a1_7).bind fun t266 => (if t266 = true then (if a0_8 = a1_8 then (if a0_9 = a1_9 then (some true) else (some false)) else (some false)) else (some false))) else (some false))) else (some false)) else (some false))) else (some false)
set_option maxHeartbeats 8000000 in
set_option maxRecDepth 100000 in
theorem laws_eqCred.calls (a0_0 : Int) (a0_1 : Int) (a0_2 : Int) (a0_3 : Int) (a0_4 : Int) (a0_5 : Int) (a0_6 : Int) (a0_7 : Int) (a0_8 : Int) (a0_9 : Int) (a1_0 : Int) (a1_1 : Int) (a1_2 : Int) (a1_3 : Int) (a1_4 : Int) (a1_5 : Int) (a1_6 : Int) (a1_7 : Int) (a1_8 : Int) (a1_9 : Int) (r : Bool) (w : World) (h : laws_eqCred.f a0_0 a0_1 a0_2 a0_3 a0_4 a0_5 a0_6 a0_7 a0_8 a0_9 a1_0 a1_1 a1_2 a1_3 a1_4 a1_5 a1_6 a1_7 a1_8 a1_9 = some r) :
  Calls Try.prog 95 #[.agg #[.int .i64 a0_0, .int .i64 a0_1, .int .i64 a0_2, .int .i64 a0_3, .int .i64 a0_4, .int .i64 a0_5, .int .i64 a0_6, .int .i64 a0_7, .int .i64 a0_8, .int .i64 a0_9], .agg #[.int .i64 a1_0, .int .i64 a1_1, .int .i64 a1_2, .int .i64 a1_3, .int .i64 a1_4, .int .i64 a1_5, .int .i64 a1_6, .int .i64 a1_7, .int .i64 a1_8, .int .i64 a1_9]] w fun e w' => e = .returned (.bool r) ∧ Below w.heap.size w w' := by
 have hu46 := Try.underlying46
 have hu27 := Try.underlying27
 have HB := Aside0.mk (Below.refl w.heap.size w)
 have H : (if a0_0 = a1_0 then ((laws_eqRole.f a0_1 a0_2 a1_1 a1_2).bind fun t264 => (if t264 = true then (if a0_3 = a1_3 then ((laws_eqRole.f a0_4 a0_5 a1_4 a1_5).bind fun t265 => (if t265 = true then ((laws_eqRole.f a0_6 a0_7 a1_6 a1_7).bind fun t266 => (if t266 = true then (if a0_8 = a1_8 then (if a0_9 = a1_9 then (some true) else (some false)) else (some false)) else (some false))) else (some false))) else (some false)) else (some false))) else (some false)) = some r := h
 clear h
 by_cases c3 : a0_0 = a1_0
 ·rw [if_pos c3] at H
  have c3b0 : (a0_0 == a1_0) = true := beq_iff_eq.mpr c3
  have c3b1 : (a0_0 != a1_0) = false := bne_eq_false_iff_eq.mpr c3
  clear c3
  obtain ⟨t264, A4, H⟩ := bindE_ H
  by_cases c5 : t264 = true
  ·subst c5
   replace H := ite_t_ H
   by_cases c6 : a0_3 = a1_3
   ·rw [if_pos c6] at H
    have c6b0 : (a0_3 == a1_3) = true := beq_iff_eq.mpr c6
    have c6b1 : (a0_3 != a1_3) = false := bne_eq_false_iff_eq.mpr c6
    clear c6
    obtain ⟨t265, A7, H⟩ := bindE_ H
    by_cases c8 : t265 = true
    ·subst c8
     replace H := ite_t_ H
     obtain ⟨t266, A9, H⟩ := bindE_ H
     by_cases c10 : t266 = true
     ·subst c10
      replace H := ite_t_ H
      by_cases c11 : a0_8 = a1_8
      ·rw [if_pos c11] at H
       have c11b0 : (a0_8 == a1_8) = true := beq_iff_eq.mpr c11
       have c11b1 : (a0_8 != a1_8) = false := bne_eq_false_iff_eq.mpr c11
       clear c11
       by_cases c12 : a0_9 = a1_9
       ·rw [if_pos c12] at H
        have c12b0 : (a0_9 == a1_9) = true := beq_iff_eq.mpr c12
        have c12b1 : (a0_9 != a1_9) = false := bne_eq_false_iff_eq.mpr c12
        clear c12
        obtain rfl := Option.some.inj H
        go_enter Try.func95, Try.ntmps95
        go_wp2_with (first | ((with_reducible refine gate_dst (N := 2) rfl ?_); refine box_event ?hg (N := 2) ?hd (cs := #[.int .i64 a0_0, .int .i64 a0_1, .int .i64 a0_2, .int .i64 a0_3, .int .i64 a0_4, .int .i64 a0_5, .int .i64 a0_6, .int .i64 a0_7, .int .i64 a0_8, .int .i64 a0_9]) (t := 46) ?hr ?_; (case hd => rfl); (case hg => rfl); (case hr => first | (go_simp; done) | (go_simp; rfl)); intro gb262 hg w13 hbox hb; have BK262 := Aside0.mk (hbox); have GW262 := gs_ hg; have GE262 := gs_ hg; replace HB := hbs_ hb; clear hb hbox hg) | ((with_reducible refine gate_dst (N := 3) rfl ?_); refine box_event ?hg (N := 3) ?hd (cs := #[.int .i64 a1_0, .int .i64 a1_1, .int .i64 a1_2, .int .i64 a1_3, .int .i64 a1_4, .int .i64 a1_5, .int .i64 a1_6, .int .i64 a1_7, .int .i64 a1_8, .int .i64 a1_9]) (t := 46) ?hr ?_; (case hd => rfl); (case hg => rfl); (case hr => first | (go_simp; done) | (go_simp; rfl)); intro gb263 hg w14 hbox hb; have BK263 := Aside0.mk (hbox); have GW263 := gs_ hg; have GE263 := gs_ hg; replace HB := hbs_ hb; have NB262_263 := Aside0.mk ((by rw [hg]; exact Nat.ne_of_lt (blk_lt (g := gb262) (o := .cells #[.int .i64 a0_0, .int .i64 a0_1, .int .i64 a0_2, .int .i64 a0_3, .int .i64 a0_4, .int .i64 a0_5, .int .i64 a0_6, .int .i64 a0_7, .int .i64 a0_8, .int .i64 a0_9] 46 (0, 0)) (bk_ BK262)) : gb262 ≠ gb263)); have NB263_262 := Aside0.mk ((by rw [hg]; exact Nat.ne_of_gt (blk_lt (g := gb262) (o := .cells #[.int .i64 a0_0, .int .i64 a0_1, .int .i64 a0_2, .int .i64 a0_3, .int .i64 a0_4, .int .i64 a0_5, .int .i64 a0_6, .int .i64 a0_7, .int .i64 a0_8, .int .i64 a0_9] 46 (0, 0)) (bk_ BK262)) : gb263 ≠ gb262)); replace BK262 := bkb_ BK262 hb; clear hb hbox hg; have hnb15 := NB262_263.out; have hnc15 := NB263_262.out; have hcz16 := blk_cell BK262.out; have hfz16 := blk_frozen BK262.out; have hcz17 := blk_cell BK263.out; have hfz17 := blk_frozen BK263.out) | ((with_reducible refine gate_callee (f := 130) rfl ?_); refine goesC_ (some 14) Try.func130 #[.agg #[.int .i64 a0_1, .int .i64 a0_2], .agg #[.int .i64 a1_1, .int .i64 a1_2]] ?_; (with_reducible refine (laws_eqRole.calls a0_1 a0_2 a1_1 a1_2 true _ A4.out).mono ?_); rintro e w18 ⟨rfl, hb⟩; refine ⟨_, rfl, ?_⟩; replace BK262 := bkb_ BK262 hb; replace BK263 := bkb_ BK263 hb; replace HB := hbs_ hb; clear hb; have hcz19 := blk_cell BK262.out; have hfz19 := blk_frozen BK262.out; have hcz20 := blk_cell BK263.out; have hfz20 := blk_frozen BK263.out) | ((with_reducible refine gate_callee (f := 130) rfl ?_); refine goesC_ (some 25) Try.func130 #[.agg #[.int .i64 a0_4, .int .i64 a0_5], .agg #[.int .i64 a1_4, .int .i64 a1_5]] ?_; (with_reducible refine (laws_eqRole.calls a0_4 a0_5 a1_4 a1_5 true _ A7.out).mono ?_); rintro e w21 ⟨rfl, hb⟩; refine ⟨_, rfl, ?_⟩; replace BK262 := bkb_ BK262 hb; replace BK263 := bkb_ BK263 hb; replace HB := hbs_ hb; clear hb; have hcz22 := blk_cell BK262.out; have hfz22 := blk_frozen BK262.out; have hcz23 := blk_cell BK263.out; have hfz23 := blk_frozen BK263.out) | ((with_reducible refine gate_callee (f := 130) rfl ?_); refine goesC_ (some 31) Try.func130 #[.agg #[.int .i64 a0_6, .int .i64 a0_7], .agg #[.int .i64 a1_6, .int .i64 a1_7]] ?_; (with_reducible refine (laws_eqRole.calls a0_6 a0_7 a1_6 a1_7 true _ A9.out).mono ?_); rintro e w24 ⟨rfl, hb⟩; refine ⟨_, rfl, ?_⟩; replace BK262 := bkb_ BK262 hb; replace BK263 := bkb_ BK263 hb; replace HB := hbs_ hb; clear hb; have hcz25 := blk_cell BK262.out; have hfz25 := blk_frozen BK262.out; have hcz26 := blk_cell BK263.out; have hfz26 := blk_frozen BK263.out))
        go_ret
        exact ⟨eq_, bl_⟩
       ·rw [if_neg c12] at H
        have c12b0 : (a0_9 == a1_9) = false := beq_eq_false_iff_ne.mpr c12
        have c12b1 : (a0_9 != a1_9) = true := bne_iff_ne.mpr c12
        obtain rfl := Option.some.inj H
        go_enter Try.func95, Try.ntmps95
        go_wp2_with (first | ((with_reducible refine gate_dst (N := 2) rfl ?_); refine box_event ?hg (N := 2) ?hd (cs := #[.int .i64 a0_0, .int .i64 a0_1, .int .i64 a0_2, .int .i64 a0_3, .int .i64 a0_4, .int .i64 a0_5, .int .i64 a0_6, .int .i64 a0_7, .int .i64 a0_8, .int .i64 a0_9]) (t := 46) ?hr ?_; (case hd => rfl); (case hg => rfl); (case hr => first | (go_simp; done) | (go_simp; rfl)); intro gb262 hg w27 hbox hb; have BK262 := Aside0.mk (hbox); have GW262 := gs_ hg; have GE262 := gs_ hg; replace HB := hbs_ hb; clear hb hbox hg) | ((with_reducible refine gate_dst (N := 3) rfl ?_); refine box_event ?hg (N := 3) ?hd (cs := #[.int .i64 a1_0, .int .i64 a1_1, .int .i64 a1_2, .int .i64 a1_3, .int .i64 a1_4, .int .i64 a1_5, .int .i64 a1_6, .int .i64 a1_7, .int .i64 a1_8, .int .i64 a1_9]) (t := 46) ?hr ?_; (case hd => rfl); (case hg => rfl); (case hr => first | (go_simp; done) | (go_simp; rfl)); intro gb263 hg w28 hbox hb; have BK263 := Aside0.mk (hbox); have GW263 := gs_ hg; have GE263 := gs_ hg; replace HB := hbs_ hb; have NB262_263 := Aside0.mk ((by rw [hg]; exact Nat.ne_of_lt (blk_lt (g := gb262) (o := .cells #[.int .i64 a0_0, .int .i64 a0_1, .int .i64 a0_2, .int .i64 a0_3, .int .i64 a0_4, .int .i64 a0_5, .int .i64 a0_6, .int .i64 a0_7, .int .i64 a0_8, .int .i64 a0_9] 46 (0, 0)) (bk_ BK262)) : gb262 ≠ gb263)); have NB263_262 := Aside0.mk ((by rw [hg]; exact Nat.ne_of_gt (blk_lt (g := gb262) (o := .cells #[.int .i64 a0_0, .int .i64 a0_1, .int .i64 a0_2, .int .i64 a0_3, .int .i64 a0_4, .int .i64 a0_5, .int .i64 a0_6, .int .i64 a0_7, .int .i64 a0_8, .int .i64 a0_9] 46 (0, 0)) (bk_ BK262)) : gb263 ≠ gb262)); replace BK262 := bkb_ BK262 hb; clear hb hbox hg; have hnb29 := NB262_263.out; have hnc29 := NB263_262.out; have hcz30 := blk_cell BK262.out; have hfz30 := blk_frozen BK262.out; have hcz31 := blk_cell BK263.out; have hfz31 := blk_frozen BK263.out) | ((with_reducible refine gate_callee (f := 130) rfl ?_); refine goesC_ (some 14) Try.func130 #[.agg #[.int .i64 a0_1, .int .i64 a0_2], .agg #[.int .i64 a1_1, .int .i64 a1_2]] ?_; (with_reducible refine (laws_eqRole.calls a0_1 a0_2 a1_1 a1_2 true _ A4.out).mono ?_); rintro e w32 ⟨rfl, hb⟩; refine ⟨_, rfl, ?_⟩; replace BK262 := bkb_ BK262 hb; replace BK263 := bkb_ BK263 hb; replace HB := hbs_ hb; clear hb; have hcz33 := blk_cell BK262.out; have hfz33 := blk_frozen BK262.out; have hcz34 := blk_cell BK263.out; have hfz34 := blk_frozen BK263.out) | ((with_reducible refine gate_callee (f := 130) rfl ?_); refine goesC_ (some 25) Try.func130 #[.agg #[.int .i64 a0_4, .int .i64 a0_5], .agg #[.int .i64 a1_4, .int .i64 a1_5]] ?_; (with_reducible refine (laws_eqRole.calls a0_4 a0_5 a1_4 a1_5 true _ A7.out).mono ?_); rintro e w35 ⟨rfl, hb⟩; refine ⟨_, rfl, ?_⟩; replace BK262 := bkb_ BK262 hb; replace BK263 := bkb_ BK263 hb; replace HB := hbs_ hb; clear hb; have hcz36 := blk_cell BK262.out; have hfz36 := blk_frozen BK262.out; have hcz37 := blk_cell BK263.out; have hfz37 := blk_frozen BK263.out) | ((with_reducible refine gate_callee (f := 130) rfl ?_); refine goesC_ (some 31) Try.func130 #[.agg #[.int .i64 a0_6, .int .i64 a0_7], .agg #[.int .i64 a1_6, .int .i64 a1_7]] ?_; (with_reducible refine (laws_eqRole.calls a0_6 a0_7 a1_6 a1_7 true _ A9.out).mono ?_); rintro e w38 ⟨rfl, hb⟩; refine ⟨_, rfl, ?_⟩; replace BK262 := bkb_ BK262 hb; replace BK263 := bkb_ BK263 hb; replace HB := hbs_ hb; clear hb; have hcz39 := blk_cell BK262.out; have hfz39 := blk_frozen BK262.out; have hcz40 := blk_cell BK263.out; have hfz40 := blk_frozen BK263.out))
        go_ret
        exact ⟨eq_, bl_⟩
      ·rw [if_neg c11] at H
       have c11b0 : (a0_8 == a1_8) = false := beq_eq_false_iff_ne.mpr c11
       have c11b1 : (a0_8 != a1_8) = true := bne_iff_ne.mpr c11
       obtain rfl := Option.some.inj H
       go_enter Try.func95, Try.ntmps95
       go_wp2_with (first | ((with_reducible refine gate_dst (N := 2) rfl ?_); refine box_event ?hg (N := 2) ?hd (cs := #[.int .i64 a0_0, .int .i64 a0_1, .int .i64 a0_2, .int .i64 a0_3, .int .i64 a0_4, .int .i64 a0_5, .int .i64 a0_6, .int .i64 a0_7, .int .i64 a0_8, .int .i64 a0_9]) (t := 46) ?hr ?_; (case hd => rfl); (case hg => rfl); (case hr => first | (go_simp; done) | (go_simp; rfl)); intro gb262 hg w41 hbox hb; have BK262 := Aside0.mk (hbox); have GW262 := gs_ hg; have GE262 := gs_ hg; replace HB := hbs_ hb; clear hb hbox hg) | ((with_reducible refine gate_dst (N := 3) rfl ?_); refine box_event ?hg (N := 3) ?hd (cs := #[.int .i64 a1_0, .int .i64 a1_1, .int .i64 a1_2, .int .i64 a1_3, .int .i64 a1_4, .int .i64 a1_5, .int .i64 a1_6, .int .i64 a1_7, .int .i64 a1_8, .int .i64 a1_9]) (t := 46) ?hr ?_; (case hd => rfl); (case hg => rfl); (case hr => first | (go_simp; done) | (go_simp; rfl)); intro gb263 hg w42 hbox hb; have BK263 := Aside0.mk (hbox); have GW263 := gs_ hg; have GE263 := gs_ hg; replace HB := hbs_ hb; have NB262_263 := Aside0.mk ((by rw [hg]; exact Nat.ne_of_lt (blk_lt (g := gb262) (o := .cells #[.int .i64 a0_0, .int .i64 a0_1, .int .i64 a0_2, .int .i64 a0_3, .int .i64 a0_4, .int .i64 a0_5, .int .i64 a0_6, .int .i64 a0_7, .int .i64 a0_8, .int .i64 a0_9] 46 (0, 0)) (bk_ BK262)) : gb262 ≠ gb263)); have NB263_262 := Aside0.mk ((by rw [hg]; exact Nat.ne_of_gt (blk_lt (g := gb262) (o := .cells #[.int .i64 a0_0, .int .i64 a0_1, .int .i64 a0_2, .int .i64 a0_3, .int .i64 a0_4, .int .i64 a0_5, .int .i64 a0_6, .int .i64 a0_7, .int .i64 a0_8, .int .i64 a0_9] 46 (0, 0)) (bk_ BK262)) : gb263 ≠ gb262)); replace BK262 := bkb_ BK262 hb; clear hb hbox hg; have hnb43 := NB262_263.out; have hnc43 := NB263_262.out; have hcz44 := blk_cell BK262.out; have hfz44 := blk_frozen BK262.out; have hcz45 := blk_cell BK263.out; have hfz45 := blk_frozen BK263.out) | ((with_reducible refine gate_callee (f := 130) rfl ?_); refine goesC_ (some 14) Try.func130 #[.agg #[.int .i64 a0_1, .int .i64 a0_2], .agg #[.int .i64 a1_1, .int .i64 a1_2]] ?_; (with_reducible refine (laws_eqRole.calls a0_1 a0_2 a1_1 a1_2 true _ A4.out).mono ?_); rintro e w46 ⟨rfl, hb⟩; refine ⟨_, rfl, ?_⟩; replace BK262 := bkb_ BK262 hb; replace BK263 := bkb_ BK263 hb; replace HB := hbs_ hb; clear hb; have hcz47 := blk_cell BK262.out; have hfz47 := blk_frozen BK262.out; have hcz48 := blk_cell BK263.out; have hfz48 := blk_frozen BK263.out) | ((with_reducible refine gate_callee (f := 130) rfl ?_); refine goesC_ (some 25) Try.func130 #[.agg #[.int .i64 a0_4, .int .i64 a0_5], .agg #[.int .i64 a1_4, .int .i64 a1_5]] ?_; (with_reducible refine (laws_eqRole.calls a0_4 a0_5 a1_4 a1_5 true _ A7.out).mono ?_); rintro e w49 ⟨rfl, hb⟩; refine ⟨_, rfl, ?_⟩; replace BK262 := bkb_ BK262 hb; replace BK263 := bkb_ BK263 hb; replace HB := hbs_ hb; clear hb; have hcz50 := blk_cell BK262.out; have hfz50 := blk_frozen BK262.out; have hcz51 := blk_cell BK263.out; have hfz51 := blk_frozen BK263.out) | ((with_reducible refine gate_callee (f := 130) rfl ?_); refine goesC_ (some 31) Try.func130 #[.agg #[.int .i64 a0_6, .int .i64 a0_7], .agg #[.int .i64 a1_6, .int .i64 a1_7]] ?_; (with_reducible refine (laws_eqRole.calls a0_6 a0_7 a1_6 a1_7 true _ A9.out).mono ?_); rintro e w52 ⟨rfl, hb⟩; refine ⟨_, rfl, ?_⟩; replace BK262 := bkb_ BK262 hb; replace BK263 := bkb_ BK263 hb; replace HB := hbs_ hb; clear hb; have hcz53 := blk_cell BK262.out; have hfz53 := blk_frozen BK262.out; have hcz54 := blk_cell BK263.out; have hfz54 := blk_frozen BK263.out))
       go_ret
       exact ⟨eq_, bl_⟩
     ·replace c10 := Bool.eq_false_iff.mpr c10
      subst c10
      replace H := ite_f_ H
      obtain rfl := Option.some.inj H
      go_enter Try.func95, Try.ntmps95
      go_wp2_with (first | ((with_reducible refine gate_dst (N := 2) rfl ?_); refine box_event ?hg (N := 2) ?hd (cs := #[.int .i64 a0_0, .int .i64 a0_1, .int .i64 a0_2, .int .i64 a0_3, .int .i64 a0_4, .int .i64 a0_5, .int .i64 a0_6, .int .i64 a0_7, .int .i64 a0_8, .int .i64 a0_9]) (t := 46) ?hr ?_; (case hd => rfl); (case hg => rfl); (case hr => first | (go_simp; done) | (go_simp; rfl)); intro gb262 hg w55 hbox hb; have BK262 := Aside0.mk (hbox); have GW262 := gs_ hg; have GE262 := gs_ hg; replace HB := hbs_ hb; clear hb hbox hg) | ((with_reducible refine gate_dst (N := 3) rfl ?_); refine box_event ?hg (N := 3) ?hd (cs := #[.int .i64 a1_0, .int .i64 a1_1, .int .i64 a1_2, .int .i64 a1_3, .int .i64 a1_4, .int .i64 a1_5, .int .i64 a1_6, .int .i64 a1_7, .int .i64 a1_8, .int .i64 a1_9]) (t := 46) ?hr ?_; (case hd => rfl); (case hg => rfl); (case hr => first | (go_simp; done) | (go_simp; rfl)); intro gb263 hg w56 hbox hb; have BK263 := Aside0.mk (hbox); have GW263 := gs_ hg; have GE263 := gs_ hg; replace HB := hbs_ hb; have NB262_263 := Aside0.mk ((by rw [hg]; exact Nat.ne_of_lt (blk_lt (g := gb262) (o := .cells #[.int .i64 a0_0, .int .i64 a0_1, .int .i64 a0_2, .int .i64 a0_3, .int .i64 a0_4, .int .i64 a0_5, .int .i64 a0_6, .int .i64 a0_7, .int .i64 a0_8, .int .i64 a0_9] 46 (0, 0)) (bk_ BK262)) : gb262 ≠ gb263)); have NB263_262 := Aside0.mk ((by rw [hg]; exact Nat.ne_of_gt (blk_lt (g := gb262) (o := .cells #[.int .i64 a0_0, .int .i64 a0_1, .int .i64 a0_2, .int .i64 a0_3, .int .i64 a0_4, .int .i64 a0_5, .int .i64 a0_6, .int .i64 a0_7, .int .i64 a0_8, .int .i64 a0_9] 46 (0, 0)) (bk_ BK262)) : gb263 ≠ gb262)); replace BK262 := bkb_ BK262 hb; clear hb hbox hg; have hnb57 := NB262_263.out; have hnc57 := NB263_262.out; have hcz58 := blk_cell BK262.out; have hfz58 := blk_frozen BK262.out; have hcz59 := blk_cell BK263.out; have hfz59 := blk_frozen BK263.out) | ((with_reducible refine gate_callee (f := 130) rfl ?_); refine goesC_ (some 14) Try.func130 #[.agg #[.int .i64 a0_1, .int .i64 a0_2], .agg #[.int .i64 a1_1, .int .i64 a1_2]] ?_; (with_reducible refine (laws_eqRole.calls a0_1 a0_2 a1_1 a1_2 true _ A4.out).mono ?_); rintro e w60 ⟨rfl, hb⟩; refine ⟨_, rfl, ?_⟩; replace BK262 := bkb_ BK262 hb; replace BK263 := bkb_ BK263 hb; replace HB := hbs_ hb; clear hb; have hcz61 := blk_cell BK262.out; have hfz61 := blk_frozen BK262.out; have hcz62 := blk_cell BK263.out; have hfz62 := blk_frozen BK263.out) | ((with_reducible refine gate_callee (f := 130) rfl ?_); refine goesC_ (some 25) Try.func130 #[.agg #[.int .i64 a0_4, .int .i64 a0_5], .agg #[.int .i64 a1_4, .int .i64 a1_5]] ?_; (with_reducible refine (laws_eqRole.calls a0_4 a0_5 a1_4 a1_5 true _ A7.out).mono ?_); rintro e w63 ⟨rfl, hb⟩; refine ⟨_, rfl, ?_⟩; replace BK262 := bkb_ BK262 hb; replace BK263 := bkb_ BK263 hb; replace HB := hbs_ hb; clear hb; have hcz64 := blk_cell BK262.out; have hfz64 := blk_frozen BK262.out; have hcz65 := blk_cell BK263.out; have hfz65 := blk_frozen BK263.out) | ((with_reducible refine gate_callee (f := 130) rfl ?_); refine goesC_ (some 31) Try.func130 #[.agg #[.int .i64 a0_6, .int .i64 a0_7], .agg #[.int .i64 a1_6, .int .i64 a1_7]] ?_; (with_reducible refine (laws_eqRole.calls a0_6 a0_7 a1_6 a1_7 false _ A9.out).mono ?_); rintro e w66 ⟨rfl, hb⟩; refine ⟨_, rfl, ?_⟩; replace BK262 := bkb_ BK262 hb; replace BK263 := bkb_ BK263 hb; replace HB := hbs_ hb; clear hb))
      go_ret
      exact ⟨eq_, bl_⟩
    ·replace c8 := Bool.eq_false_iff.mpr c8
     subst c8
     replace H := ite_f_ H
     obtain rfl := Option.some.inj H
     go_enter Try.func95, Try.ntmps95
     go_wp2_with (first | ((with_reducible refine gate_dst (N := 2) rfl ?_); refine box_event ?hg (N := 2) ?hd (cs := #[.int .i64 a0_0, .int .i64 a0_1, .int .i64 a0_2, .int .i64 a0_3, .int .i64 a0_4, .int .i64 a0_5, .int .i64 a0_6, .int .i64 a0_7, .int .i64 a0_8, .int .i64 a0_9]) (t := 46) ?hr ?_; (case hd => rfl); (case hg => rfl); (case hr => first | (go_simp; done) | (go_simp; rfl)); intro gb262 hg w67 hbox hb; have BK262 := Aside0.mk (hbox); have GW262 := gs_ hg; have GE262 := gs_ hg; replace HB := hbs_ hb; clear hb hbox hg) | ((with_reducible refine gate_dst (N := 3) rfl ?_); refine box_event ?hg (N := 3) ?hd (cs := #[.int .i64 a1_0, .int .i64 a1_1, .int .i64 a1_2, .int .i64 a1_3, .int .i64 a1_4, .int .i64 a1_5, .int .i64 a1_6, .int .i64 a1_7, .int .i64 a1_8, .int .i64 a1_9]) (t := 46) ?hr ?_; (case hd => rfl); (case hg => rfl); (case hr => first | (go_simp; done) | (go_simp; rfl)); intro gb263 hg w68 hbox hb; have BK263 := Aside0.mk (hbox); have GW263 := gs_ hg; have GE263 := gs_ hg; replace HB := hbs_ hb; have NB262_263 := Aside0.mk ((by rw [hg]; exact Nat.ne_of_lt (blk_lt (g := gb262) (o := .cells #[.int .i64 a0_0, .int .i64 a0_1, .int .i64 a0_2, .int .i64 a0_3, .int .i64 a0_4, .int .i64 a0_5, .int .i64 a0_6, .int .i64 a0_7, .int .i64 a0_8, .int .i64 a0_9] 46 (0, 0)) (bk_ BK262)) : gb262 ≠ gb263)); have NB263_262 := Aside0.mk ((by rw [hg]; exact Nat.ne_of_gt (blk_lt (g := gb262) (o := .cells #[.int .i64 a0_0, .int .i64 a0_1, .int .i64 a0_2, .int .i64 a0_3, .int .i64 a0_4, .int .i64 a0_5, .int .i64 a0_6, .int .i64 a0_7, .int .i64 a0_8, .int .i64 a0_9] 46 (0, 0)) (bk_ BK262)) : gb263 ≠ gb262)); replace BK262 := bkb_ BK262 hb; clear hb hbox hg; have hnb69 := NB262_263.out; have hnc69 := NB263_262.out; have hcz70 := blk_cell BK262.out; have hfz70 := blk_frozen BK262.out; have hcz71 := blk_cell BK263.out; have hfz71 := blk_frozen BK263.out) | ((with_reducible refine gate_callee (f := 130) rfl ?_); refine goesC_ (some 14) Try.func130 #[.agg #[.int .i64 a0_1, .int .i64 a0_2], .agg #[.int .i64 a1_1, .int .i64 a1_2]] ?_; (with_reducible refine (laws_eqRole.calls a0_1 a0_2 a1_1 a1_2 true _ A4.out).mono ?_); rintro e w72 ⟨rfl, hb⟩; refine ⟨_, rfl, ?_⟩; replace BK262 := bkb_ BK262 hb; replace BK263 := bkb_ BK263 hb; replace HB := hbs_ hb; clear hb; have hcz73 := blk_cell BK262.out; have hfz73 := blk_frozen BK262.out; have hcz74 := blk_cell BK263.out; have hfz74 := blk_frozen BK263.out) | ((with_reducible refine gate_callee (f := 130) rfl ?_); refine goesC_ (some 25) Try.func130 #[.agg #[.int .i64 a0_4, .int .i64 a0_5], .agg #[.int .i64 a1_4, .int .i64 a1_5]] ?_; (with_reducible refine (laws_eqRole.calls a0_4 a0_5 a1_4 a1_5 false _ A7.out).mono ?_); rintro e w75 ⟨rfl, hb⟩; refine ⟨_, rfl, ?_⟩; replace BK262 := bkb_ BK262 hb; replace BK263 := bkb_ BK263 hb; replace HB := hbs_ hb; clear hb))
     go_ret
     exact ⟨eq_, bl_⟩
   ·rw [if_neg c6] at H
    have c6b0 : (a0_3 == a1_3) = false := beq_eq_false_iff_ne.mpr c6
    have c6b1 : (a0_3 != a1_3) = true := bne_iff_ne.mpr c6
    obtain rfl := Option.some.inj H
    go_enter Try.func95, Try.ntmps95
    go_wp2_with (first | ((with_reducible refine gate_dst (N := 2) rfl ?_); refine box_event ?hg (N := 2) ?hd (cs := #[.int .i64 a0_0, .int .i64 a0_1, .int .i64 a0_2, .int .i64 a0_3, .int .i64 a0_4, .int .i64 a0_5, .int .i64 a0_6, .int .i64 a0_7, .int .i64 a0_8, .int .i64 a0_9]) (t := 46) ?hr ?_; (case hd => rfl); (case hg => rfl); (case hr => first | (go_simp; done) | (go_simp; rfl)); intro gb262 hg w76 hbox hb; have BK262 := Aside0.mk (hbox); have GW262 := gs_ hg; have GE262 := gs_ hg; replace HB := hbs_ hb; clear hb hbox hg) | ((with_reducible refine gate_dst (N := 3) rfl ?_); refine box_event ?hg (N := 3) ?hd (cs := #[.int .i64 a1_0, .int .i64 a1_1, .int .i64 a1_2, .int .i64 a1_3, .int .i64 a1_4, .int .i64 a1_5, .int .i64 a1_6, .int .i64 a1_7, .int .i64 a1_8, .int .i64 a1_9]) (t := 46) ?hr ?_; (case hd => rfl); (case hg => rfl); (case hr => first | (go_simp; done) | (go_simp; rfl)); intro gb263 hg w77 hbox hb; have BK263 := Aside0.mk (hbox); have GW263 := gs_ hg; have GE263 := gs_ hg; replace HB := hbs_ hb; have NB262_263 := Aside0.mk ((by rw [hg]; exact Nat.ne_of_lt (blk_lt (g := gb262) (o := .cells #[.int .i64 a0_0, .int .i64 a0_1, .int .i64 a0_2, .int .i64 a0_3, .int .i64 a0_4, .int .i64 a0_5, .int .i64 a0_6, .int .i64 a0_7, .int .i64 a0_8, .int .i64 a0_9] 46 (0, 0)) (bk_ BK262)) : gb262 ≠ gb263)); have NB263_262 := Aside0.mk ((by rw [hg]; exact Nat.ne_of_gt (blk_lt (g := gb262) (o := .cells #[.int .i64 a0_0, .int .i64 a0_1, .int .i64 a0_2, .int .i64 a0_3, .int .i64 a0_4, .int .i64 a0_5, .int .i64 a0_6, .int .i64 a0_7, .int .i64 a0_8, .int .i64 a0_9] 46 (0, 0)) (bk_ BK262)) : gb263 ≠ gb262)); replace BK262 := bkb_ BK262 hb; clear hb hbox hg; have hnb78 := NB262_263.out; have hnc78 := NB263_262.out; have hcz79 := blk_cell BK262.out; have hfz79 := blk_frozen BK262.out; have hcz80 := blk_cell BK263.out; have hfz80 := blk_frozen BK263.out) | ((with_reducible refine gate_callee (f := 130) rfl ?_); refine goesC_ (some 14) Try.func130 #[.agg #[.int .i64 a0_1, .int .i64 a0_2], .agg #[.int .i64 a1_1, .int .i64 a1_2]] ?_; (with_reducible refine (laws_eqRole.calls a0_1 a0_2 a1_1 a1_2 true _ A4.out).mono ?_); rintro e w81 ⟨rfl, hb⟩; refine ⟨_, rfl, ?_⟩; replace BK262 := bkb_ BK262 hb; replace BK263 := bkb_ BK263 hb; replace HB := hbs_ hb; clear hb; have hcz82 := blk_cell BK262.out; have hfz82 := blk_frozen BK262.out; have hcz83 := blk_cell BK263.out; have hfz83 := blk_frozen BK263.out))
    go_ret
    exact ⟨eq_, bl_⟩
  ·replace c5 := Bool.eq_false_iff.mpr c5
   subst c5
   replace H := ite_f_ H
   obtain rfl := Option.some.inj H
   go_enter Try.func95, Try.ntmps95
   go_wp2_with (first | ((with_reducible refine gate_dst (N := 2) rfl ?_); refine box_event ?hg (N := 2) ?hd (cs := #[.int .i64 a0_0, .int .i64 a0_1, .int .i64 a0_2, .int .i64 a0_3, .int .i64 a0_4, .int .i64 a0_5, .int .i64 a0_6, .int .i64 a0_7, .int .i64 a0_8, .int .i64 a0_9]) (t := 46) ?hr ?_; (case hd => rfl); (case hg => rfl); (case hr => first | (go_simp; done) | (go_simp; rfl)); intro gb262 hg w84 hbox hb; have BK262 := Aside0.mk (hbox); have GW262 := gs_ hg; have GE262 := gs_ hg; replace HB := hbs_ hb; clear hb hbox hg) | ((with_reducible refine gate_dst (N := 3) rfl ?_); refine box_event ?hg (N := 3) ?hd (cs := #[.int .i64 a1_0, .int .i64 a1_1, .int .i64 a1_2, .int .i64 a1_3, .int .i64 a1_4, .int .i64 a1_5, .int .i64 a1_6, .int .i64 a1_7, .int .i64 a1_8, .int .i64 a1_9]) (t := 46) ?hr ?_; (case hd => rfl); (case hg => rfl); (case hr => first | (go_simp; done) | (go_simp; rfl)); intro gb263 hg w85 hbox hb; have BK263 := Aside0.mk (hbox); have GW263 := gs_ hg; have GE263 := gs_ hg; replace HB := hbs_ hb; have NB262_263 := Aside0.mk ((by rw [hg]; exact Nat.ne_of_lt (blk_lt (g := gb262) (o := .cells #[.int .i64 a0_0, .int .i64 a0_1, .int .i64 a0_2, .int .i64 a0_3, .int .i64 a0_4, .int .i64 a0_5, .int .i64 a0_6, .int .i64 a0_7, .int .i64 a0_8, .int .i64 a0_9] 46 (0, 0)) (bk_ BK262)) : gb262 ≠ gb263)); have NB263_262 := Aside0.mk ((by rw [hg]; exact Nat.ne_of_gt (blk_lt (g := gb262) (o := .cells #[.int .i64 a0_0, .int .i64 a0_1, .int .i64 a0_2, .int .i64 a0_3, .int .i64 a0_4, .int .i64 a0_5, .int .i64 a0_6, .int .i64 a0_7, .int .i64 a0_8, .int .i64 a0_9] 46 (0, 0)) (bk_ BK262)) : gb263 ≠ gb262)); replace BK262 := bkb_ BK262 hb; clear hb hbox hg; have hnb86 := NB262_263.out; have hnc86 := NB263_262.out; have hcz87 := blk_cell BK262.out; have hfz87 := blk_frozen BK262.out; have hcz88 := blk_cell BK263.out; have hfz88 := blk_frozen BK263.out) | ((with_reducible refine gate_callee (f := 130) rfl ?_); refine goesC_ (some 14) Try.func130 #[.agg #[.int .i64 a0_1, .int .i64 a0_2], .agg #[.int .i64 a1_1, .int .i64 a1_2]] ?_; (with_reducible refine (laws_eqRole.calls a0_1 a0_2 a1_1 a1_2 false _ A4.out).mono ?_); rintro e w89 ⟨rfl, hb⟩; refine ⟨_, rfl, ?_⟩; replace BK262 := bkb_ BK262 hb; replace BK263 := bkb_ BK263 hb; replace HB := hbs_ hb; clear hb))
   go_ret
   exact ⟨eq_, bl_⟩
 ·rw [if_neg c3] at H
  have c3b0 : (a0_0 == a1_0) = false := beq_eq_false_iff_ne.mpr c3
  have c3b1 : (a0_0 != a1_0) = true := bne_iff_ne.mpr c3
  obtain rfl := Option.some.inj H
  go_enter Try.func95, Try.ntmps95
  go_wp2_with (first | ((with_reducible refine gate_dst (N := 2) rfl ?_); refine box_event ?hg (N := 2) ?hd (cs := #[.int .i64 a0_0, .int .i64 a0_1, .int .i64 a0_2, .int .i64 a0_3, .int .i64 a0_4, .int .i64 a0_5, .int .i64 a0_6, .int .i64 a0_7, .int .i64 a0_8, .int .i64 a0_9]) (t := 46) ?hr ?_; (case hd => rfl); (case hg => rfl); (case hr => first | (go_simp; done) | (go_simp; rfl)); intro gb262 hg w90 hbox hb; have BK262 := Aside0.mk (hbox); have GW262 := gs_ hg; have GE262 := gs_ hg; replace HB := hbs_ hb; clear hb hbox hg) | ((with_reducible refine gate_dst (N := 3) rfl ?_); refine box_event ?hg (N := 3) ?hd (cs := #[.int .i64 a1_0, .int .i64 a1_1, .int .i64 a1_2, .int .i64 a1_3, .int .i64 a1_4, .int .i64 a1_5, .int .i64 a1_6, .int .i64 a1_7, .int .i64 a1_8, .int .i64 a1_9]) (t := 46) ?hr ?_; (case hd => rfl); (case hg => rfl); (case hr => first | (go_simp; done) | (go_simp; rfl)); intro gb263 hg w91 hbox hb; have BK263 := Aside0.mk (hbox); have GW263 := gs_ hg; have GE263 := gs_ hg; replace HB := hbs_ hb; have NB262_263 := Aside0.mk ((by rw [hg]; exact Nat.ne_of_lt (blk_lt (g := gb262) (o := .cells #[.int .i64 a0_0, .int .i64 a0_1, .int .i64 a0_2, .int .i64 a0_3, .int .i64 a0_4, .int .i64 a0_5, .int .i64 a0_6, .int .i64 a0_7, .int .i64 a0_8, .int .i64 a0_9] 46 (0, 0)) (bk_ BK262)) : gb262 ≠ gb263)); have NB263_262 := Aside0.mk ((by rw [hg]; exact Nat.ne_of_gt (blk_lt (g := gb262) (o := .cells #[.int .i64 a0_0, .int .i64 a0_1, .int .i64 a0_2, .int .i64 a0_3, .int .i64 a0_4, .int .i64 a0_5, .int .i64 a0_6, .int .i64 a0_7, .int .i64 a0_8, .int .i64 a0_9] 46 (0, 0)) (bk_ BK262)) : gb263 ≠ gb262)); replace BK262 := bkb_ BK262 hb; clear hb hbox hg; have hnb92 := NB262_263.out; have hnc92 := NB263_262.out; have hcz93 := blk_cell BK262.out; have hfz93 := blk_frozen BK262.out; have hcz94 := blk_cell BK263.out; have hfz94 := blk_frozen BK263.out))
  go_ret
  exact ⟨eq_, bl_⟩
def laws_eqCredS.l0 : Nat → List (S46) → List (S46) → Int → Option (Bool)
 | 0, _, _, _ => none
 | k + 1, x0, x1, x5 => if x5 < (x0.length : Int) then (if 0 ≤ x5 then (if x5 < (x1.length : Int) then ((laws_eqCred.f ((rd_T46 x0 x5).f0) ((rd_T46 x0 x5).f1.f0) ((rd_T46 x0 x5).f1.f1) ((rd_T46 x0 x5).f2) ((rd_T46 x0 x5).f3.f0) ((rd_T46 x0 x5).f3.f1) ((rd_T46 x0 x5).f4.f0) ((rd_T46 x0 x5).f4.f1) ((rd_T46 x0 x5).f5) ((rd_T46 x0 x5).f6) ((rd_T46 x1 x5).f0) ((rd_T46 x1 x5).f1.f0) ((rd_T46 x1 x5).f1.f1) ((rd_T46 x1 x5).f2) ((rd_T46 x1 x5).f3.f0) ((rd_T46 x1 x5).f3.f1) ((rd_T46 x1 x5).f4.f0) ((rd_T46 x1 x5).f4.f1) ((rd_T46 x1 x5).f5) ((rd_T46 x1 x5).f6)).bind fun t269 => (if t269 = true then (laws_eqCredS.l0 k x0 x1 (wrap64 (x5 + 1))) else (some false))) else (none)) else (none)) else (some true)
def laws_eqCredS.f (k : Nat) (l0 : List (S46)) (l1 : List (S46)) : Option (Bool) := if (l0.length : Int) = (l1.length : Int) then (laws_eqCredS.l0 k l0 l1 0) else (some false)
def laws_eqCredS.T6 : Bool × List (List Nat × List Nat) := (true, [([], []), ([], []), ([0, 1], [0, 1]), ([2], [2]), ([], []), ([], []), ([4, 5], [4, 5]), ([6], [6]), ([3, 7], [3, 7]), ([8], [8])])
def laws_eqCredS.B6 : List Nat := [0, 0, 3, 7, 0, 0, 48, 112, 255, 511]
theorem laws_eqCredS.tab6 : rtab .any (opsOf Try.f41 6) = laws_eqCredS.T6 := by kernel_rfl
theorem laws_eqCredS.bits6 : waitsOk laws_eqCredS.T6.2 laws_eqCredS.B6 = true := by kernel_rfl
set_option maxHeartbeats 8000000 in
set_option maxRecDepth 100000 in
theorem laws_eqCredS.calls (k : Nat) (A0 : Option Addr) (c0 : Nat) (l0 : List (S46)) (A1 : Option Addr) (c1 : Nat) (l1 : List (S46)) (r : Bool) (w : World) (hr0 : Kd.C k46 w A0 l0.length l0) (hc0 : l0.length ≤ c0) (hr1 : Kd.C k46 w A1 l1.length l1) (hc1 : l1.length ≤ c1) (h : laws_eqCredS.f k l0 l1 = some r) :
  Calls Try.prog 41 #[.slice A0 l0.length c0, .slice A1 l1.length c1] w fun e w' => e = .returned (.bool r) ∧ Below w.heap.size w w' := by
 have hu46 := Try.underlying46
 have HR0 := Aside0.mk hr0
 have HC0 := Aside0.mk hc0
 clear hr0 hc0
 have HR1 := Aside0.mk hr1
 have HC1 := Aside0.mk hc1
 clear hr1 hc1
 have HB := Aside0.mk (Below.refl w.heap.size w)
 have H : (if (l0.length : Int) = (l1.length : Int) then (laws_eqCredS.l0 k l0 l1 0) else (some false)) = some r := h
 clear h
 by_cases c3 : (l0.length : Int) = (l1.length : Int)
 ·rw [if_pos c3] at H
  have c3b0 : ((l0.length : Int) == (l1.length : Int)) = true := beq_iff_eq.mpr c3
  have c3b1 : ((l0.length : Int) != (l1.length : Int)) = false := bne_eq_false_iff_eq.mpr c3
  have c3b2 : (l0.length == l1.length) = true := by first | simpa using c3 | (simp at c3 ⊢; omega)
  clear c3
  have H' := Aside0.mk H
  clear H
  go_enter Try.func41, Try.ntmps41
  go_wp2
  go_loopg [5] k (fun kq v5 w' => ∃ (x5_1 : Int), v5 = .int .i64 x5_1 ∧ Aside0 (laws_eqCredS.l0 kq l0 l1 x5_1 = some r) ∧ Aside0 (kq ≤ k) ∧ Aside0 (Below w.heap.size w w'))
  case atStart => exact ⟨(0), (by first | rfl | (simp; done) | (simp [*]; done)), H', ⟨Nat.le_refl _⟩, ⟨bl_⟩⟩
  case round =>
   clear H'
   try clear c1
   try clear p2
   try clear c3
   try clear c3b0
   try clear c3b1
   try clear c3b2
   obtain ⟨x5_1, rfl, HA, HK1, HB⟩ := hrel
   cases gk with
   | zero => exact absurd HA.out (by simp [laws_eqCredS.l0])
   | succ k1 =>
    have H := HA.out
    clear HA
    simp only [laws_eqCredS.l0] at H
    by_cases c4 : x5_1 < (l0.length : Int)
    ·rw [if_pos c4] at H
     have c4b0 : decide (x5_1 < (l0.length : Int)) = true := decide_eq_true c4
     clear c4
     by_cases c5 : 0 ≤ x5_1
     ·rw [if_pos c5] at H
      have c5b0 : decide (0 ≤ x5_1) = true := decide_eq_true c5
      clear c5
      by_cases c6 : x5_1 < (l1.length : Int)
      ·rw [if_pos c6] at H
       have c6b0 : decide (x5_1 < (l1.length : Int)) = true := decide_eq_true c6
       clear c6
       obtain ⟨t269, A7, H⟩ := bindE_ H
       by_cases c8 : t269 = true
       ·subst c8
        replace H := ite_t_ H
        have H' := Aside0.mk H
        clear H
        try go_wp2
        replace HB := Aside0.mk (below_drew1 HB.out)
        have p267 : 0 ≤ (x5_1 : Int) := of_decide_eq_true (by first | (with_reducible assumption) | assumption)
        have q267 : x5_1 < (l0.length : Int) := of_decide_eq_true (by first | (with_reducible assumption) | assumption)
        obtain ⟨ad267, e267, hx267_0, hx267_1, hx267_2, hx267_3, hx267_4, hx267_5, hx267_6, hx267_7, hx267_8, hx267_9⟩ := at_T46 HR0.out x5_1 p267 q267
        have hw267_9 := hx267_9
        have hw267_8 := hx267_8
        have hw267_7 := hx267_7
        have hw267_6 := hx267_6
        have hw267_5 := hx267_5
        have hw267_4 := hx267_4
        have hw267_3 := hx267_3
        have hw267_2 := hx267_2
        have hw267_1 := hx267_1
        have hw267_0 := hx267_0
        cases e267
        replace hx267_0 := cb_ HB hx267_0
        replace hx267_1 := cb_ HB hx267_1
        replace hx267_2 := cb_ HB hx267_2
        replace hx267_3 := cb_ HB hx267_3
        replace hx267_4 := cb_ HB hx267_4
        replace hx267_5 := cb_ HB hx267_5
        replace hx267_6 := cb_ HB hx267_6
        replace hx267_7 := cb_ HB hx267_7
        replace hx267_8 := cb_ HB hx267_8
        replace hx267_9 := cb_ HB hx267_9
        replace p267 := eq_true p267
        replace q267 := eq_true q267
        have p268 : 0 ≤ (x5_1 : Int) := of_decide_eq_true (by first | (with_reducible assumption) | assumption)
        have q268 : x5_1 < (l1.length : Int) := of_decide_eq_true (by first | (with_reducible assumption) | assumption)
        obtain ⟨ad268, e268, hx268_0, hx268_1, hx268_2, hx268_3, hx268_4, hx268_5, hx268_6, hx268_7, hx268_8, hx268_9⟩ := at_T46 HR1.out x5_1 p268 q268
        have hw268_9 := hx268_9
        have hw268_8 := hx268_8
        have hw268_7 := hx268_7
        have hw268_6 := hx268_6
        have hw268_5 := hx268_5
        have hw268_4 := hx268_4
        have hw268_3 := hx268_3
        have hw268_2 := hx268_2
        have hw268_1 := hx268_1
        have hw268_0 := hx268_0
        cases e268
        replace hx268_0 := cb_ HB hx268_0
        replace hx268_1 := cb_ HB hx268_1
        replace hx268_2 := cb_ HB hx268_2
        replace hx268_3 := cb_ HB hx268_3
        replace hx268_4 := cb_ HB hx268_4
        replace hx268_5 := cb_ HB hx268_5
        replace hx268_6 := cb_ HB hx268_6
        replace hx268_7 := cb_ HB hx268_7
        replace hx268_8 := cb_ HB hx268_8
        replace hx268_9 := cb_ HB hx268_9
        replace p268 := eq_true p268
        replace q268 := eq_true q268
        refine start_ (n := 10) (S := fun w' => w'.cell? (ad267.add ((x5_1).toNat * 10)) = some (.int .i64 ((rd_T46 l0 x5_1).f0)) ∧ w'.cell? ⟨(ad267.add ((x5_1).toNat * 10)).block, (ad267.add ((x5_1).toNat * 10)).off + 1, none⟩ = some (.int .i64 ((rd_T46 l0 x5_1).f1.f0)) ∧ w'.cell? ⟨(ad267.add ((x5_1).toNat * 10)).block, (ad267.add ((x5_1).toNat * 10)).off + 2, none⟩ = some (.int .i64 ((rd_T46 l0 x5_1).f1.f1)) ∧ w'.cell? ⟨(ad267.add ((x5_1).toNat * 10)).block, (ad267.add ((x5_1).toNat * 10)).off + 3, none⟩ = some (.int .i64 ((rd_T46 l0 x5_1).f2)) ∧ w'.cell? ⟨(ad267.add ((x5_1).toNat * 10)).block, (ad267.add ((x5_1).toNat * 10)).off + 4, none⟩ = some (.int .i64 ((rd_T46 l0 x5_1).f3.f0)) ∧ w'.cell? ⟨(ad267.add ((x5_1).toNat * 10)).block, (ad267.add ((x5_1).toNat * 10)).off + 5, none⟩ = some (.int .i64 ((rd_T46 l0 x5_1).f3.f1)) ∧ w'.cell? ⟨(ad267.add ((x5_1).toNat * 10)).block, (ad267.add ((x5_1).toNat * 10)).off + 6, none⟩ = some (.int .i64 ((rd_T46 l0 x5_1).f4.f0)) ∧ w'.cell? ⟨(ad267.add ((x5_1).toNat * 10)).block, (ad267.add ((x5_1).toNat * 10)).off + 7, none⟩ = some (.int .i64 ((rd_T46 l0 x5_1).f4.f1)) ∧ w'.cell? ⟨(ad267.add ((x5_1).toNat * 10)).block, (ad267.add ((x5_1).toNat * 10)).off + 8, none⟩ = some (.int .i64 ((rd_T46 l0 x5_1).f5)) ∧ w'.cell? ⟨(ad267.add ((x5_1).toNat * 10)).block, (ad267.add ((x5_1).toNat * 10)).off + 9, none⟩ = some (.int .i64 ((rd_T46 l0 x5_1).f6)) ∧ w'.cell? (ad268.add ((x5_1).toNat * 10)) = some (.int .i64 ((rd_T46 l1 x5_1).f0)) ∧ w'.cell? ⟨(ad268.add ((x5_1).toNat * 10)).block, (ad268.add ((x5_1).toNat * 10)).off + 1, none⟩ = some (.int .i64 ((rd_T46 l1 x5_1).f1.f0)) ∧ w'.cell? ⟨(ad268.add ((x5_1).toNat * 10)).block, (ad268.add ((x5_1).toNat * 10)).off + 2, none⟩ = some (.int .i64 ((rd_T46 l1 x5_1).f1.f1)) ∧ w'.cell? ⟨(ad268.add ((x5_1).toNat * 10)).block, (ad268.add ((x5_1).toNat * 10)).off + 3, none⟩ = some (.int .i64 ((rd_T46 l1 x5_1).f2)) ∧ w'.cell? ⟨(ad268.add ((x5_1).toNat * 10)).block, (ad268.add ((x5_1).toNat * 10)).off + 4, none⟩ = some (.int .i64 ((rd_T46 l1 x5_1).f3.f0)) ∧ w'.cell? ⟨(ad268.add ((x5_1).toNat * 10)).block, (ad268.add ((x5_1).toNat * 10)).off + 5, none⟩ = some (.int .i64 ((rd_T46 l1 x5_1).f3.f1)) ∧ w'.cell? ⟨(ad268.add ((x5_1).toNat * 10)).block, (ad268.add ((x5_1).toNat * 10)).off + 6, none⟩ = some (.int .i64 ((rd_T46 l1 x5_1).f4.f0)) ∧ w'.cell? ⟨(ad268.add ((x5_1).toNat * 10)).block, (ad268.add ((x5_1).toNat * 10)).off + 7, none⟩ = some (.int .i64 ((rd_T46 l1 x5_1).f4.f1)) ∧ w'.cell? ⟨(ad268.add ((x5_1).toNat * 10)).block, (ad268.add ((x5_1).toNat * 10)).off + 8, none⟩ = some (.int .i64 ((rd_T46 l1 x5_1).f5)) ∧ w'.cell? ⟨(ad268.add ((x5_1).toNat * 10)).block, (ad268.add ((x5_1).toNat * 10)).off + 9, none⟩ = some (.int .i64 ((rd_T46 l1 x5_1).f6))) (ds := []) #[false, false, false, false, false, false, false, false, false, false] (by kernel_rfl) rfl rfl ⟨((HB.out.cell (World.block_lt_of_cell? w _ hw267_0)).trans hw267_0), ((HB.out.cell (World.block_lt_of_cell? w _ hw267_1)).trans hw267_1), ((HB.out.cell (World.block_lt_of_cell? w _ hw267_2)).trans hw267_2), ((HB.out.cell (World.block_lt_of_cell? w _ hw267_3)).trans hw267_3), ((HB.out.cell (World.block_lt_of_cell? w _ hw267_4)).trans hw267_4), ((HB.out.cell (World.block_lt_of_cell? w _ hw267_5)).trans hw267_5), ((HB.out.cell (World.block_lt_of_cell? w _ hw267_6)).trans hw267_6), ((HB.out.cell (World.block_lt_of_cell? w _ hw267_7)).trans hw267_7), ((HB.out.cell (World.block_lt_of_cell? w _ hw267_8)).trans hw267_8), ((HB.out.cell (World.block_lt_of_cell? w _ hw267_9)).trans hw267_9), ((HB.out.cell (World.block_lt_of_cell? w _ hw268_0)).trans hw268_0), ((HB.out.cell (World.block_lt_of_cell? w _ hw268_1)).trans hw268_1), ((HB.out.cell (World.block_lt_of_cell? w _ hw268_2)).trans hw268_2), ((HB.out.cell (World.block_lt_of_cell? w _ hw268_3)).trans hw268_3), ((HB.out.cell (World.block_lt_of_cell? w _ hw268_4)).trans hw268_4), ((HB.out.cell (World.block_lt_of_cell? w _ hw268_5)).trans hw268_5), ((HB.out.cell (World.block_lt_of_cell? w _ hw268_6)).trans hw268_6), ((HB.out.cell (World.block_lt_of_cell? w _ hw268_7)).trans hw268_7), ((HB.out.cell (World.block_lt_of_cell? w _ hw268_8)).trans hw268_8), ((HB.out.cell (World.block_lt_of_cell? w _ hw268_9)).trans hw268_9)⟩ (fun hHeld => ?_); refine with_tabW laws_eqCredS.tab6 laws_eqCredS.bits6 (fun HT_ HW_ => ?_)
        generalize wr.drew = w9 at HB hx267_0 hx267_1 hx267_2 hx267_3 hx267_4 hx267_5 hx267_6 hx267_7 hx267_8 hx267_9 hx268_0 hx268_1 hx268_2 hx268_3 hx268_4 hx268_5 hx268_6 hx268_7 hx268_8 hx268_9 hHeld ⊢
        refine pureZ_ (i := 0) (some 17) #[true, false, false, false, false, false, false, false, false, false] (any_of HT_.out (by kernel_rfl)) ?_
        refine pureZ_ (i := 1) (some 18) #[true, true, false, false, false, false, false, false, false, false] (any_of HT_.out (by kernel_rfl)) ?_
        refine pureZ_ (i := 2) (some 19) #[true, true, true, false, false, false, false, false, false, false] (any_of HT_.out (by kernel_rfl)) ?_
        refine pureZ_ (i := 4) (some 21) #[true, true, true, false, true, false, false, false, false, false] (any_of HT_.out (by kernel_rfl)) ?_
        refine pureZ_ (i := 5) (some 22) #[true, true, true, false, true, true, false, false, false, false] (any_of HT_.out (by kernel_rfl)) ?_
        refine pureZ_ (i := 6) (some 23) #[true, true, true, false, true, true, true, false, false, false] (any_of HT_.out (by kernel_rfl)) ?_
        refine takeZ_ (i := 3) (some 20) #[true, true, true, true, true, true, true, false, false, false] (take_ofW HT_.out HW_.out (by kernel_rfl)) hHeld ?_
        refine takeZ_ (i := 7) (some 24) #[true, true, true, true, true, true, true, true, false, false] (take_ofW HT_.out HW_.out (by kernel_rfl)) hHeld ?_
        refine one_ (i := 8) (N := some 25) #[true, true, true, true, true, true, true, true, true, false] rfl rfl (one_of HT_.out (by kernel_rfl)) (by decide) (fun K hK => ?_)
        refine goes_ Try.func95 (by kernel_rfl) rfl #[.agg #[.int .i64 ((rd_T46 l0 x5_1).f0), .int .i64 ((rd_T46 l0 x5_1).f1.f0), .int .i64 ((rd_T46 l0 x5_1).f1.f1), .int .i64 ((rd_T46 l0 x5_1).f2), .int .i64 ((rd_T46 l0 x5_1).f3.f0), .int .i64 ((rd_T46 l0 x5_1).f3.f1), .int .i64 ((rd_T46 l0 x5_1).f4.f0), .int .i64 ((rd_T46 l0 x5_1).f4.f1), .int .i64 ((rd_T46 l0 x5_1).f5), .int .i64 ((rd_T46 l0 x5_1).f6)], .agg #[.int .i64 ((rd_T46 l1 x5_1).f0), .int .i64 ((rd_T46 l1 x5_1).f1.f0), .int .i64 ((rd_T46 l1 x5_1).f1.f1), .int .i64 ((rd_T46 l1 x5_1).f2), .int .i64 ((rd_T46 l1 x5_1).f3.f0), .int .i64 ((rd_T46 l1 x5_1).f3.f1), .int .i64 ((rd_T46 l1 x5_1).f4.f0), .int .i64 ((rd_T46 l1 x5_1).f4.f1), .int .i64 ((rd_T46 l1 x5_1).f5), .int .i64 ((rd_T46 l1 x5_1).f6)]] (by rfl) rfl rfl (by (try simp only [List.map_toArray, List.map_cons, List.map_nil]); first | done | rfl | (simp only [List.length_drop, List.length_take]; rfl)) ?_
        with_reducible refine (laws_eqCred.calls ((rd_T46 l0 x5_1).f0) ((rd_T46 l0 x5_1).f1.f0) ((rd_T46 l0 x5_1).f1.f1) ((rd_T46 l0 x5_1).f2) ((rd_T46 l0 x5_1).f3.f0) ((rd_T46 l0 x5_1).f3.f1) ((rd_T46 l0 x5_1).f4.f0) ((rd_T46 l0 x5_1).f4.f1) ((rd_T46 l0 x5_1).f5) ((rd_T46 l0 x5_1).f6) ((rd_T46 l1 x5_1).f0) ((rd_T46 l1 x5_1).f1.f0) ((rd_T46 l1 x5_1).f1.f1) ((rd_T46 l1 x5_1).f2) ((rd_T46 l1 x5_1).f3.f0) ((rd_T46 l1 x5_1).f3.f1) ((rd_T46 l1 x5_1).f4.f0) ((rd_T46 l1 x5_1).f4.f1) ((rd_T46 l1 x5_1).f5) ((rd_T46 l1 x5_1).f6) true _ A7.out).mono ?_
        rintro e w10 ⟨rfl, hb⟩
        refine ⟨_, rfl, ?_⟩
        replace HB := hbs_ hb
        (try clear hb)
        (try clear hb2)
        (try clear hk)
        (try clear hi)
        refine hK.out _ _ ⟨((HB.out.cell (World.block_lt_of_cell? w _ hw267_0)).trans hw267_0), ((HB.out.cell (World.block_lt_of_cell? w _ hw267_1)).trans hw267_1), ((HB.out.cell (World.block_lt_of_cell? w _ hw267_2)).trans hw267_2), ((HB.out.cell (World.block_lt_of_cell? w _ hw267_3)).trans hw267_3), ((HB.out.cell (World.block_lt_of_cell? w _ hw267_4)).trans hw267_4), ((HB.out.cell (World.block_lt_of_cell? w _ hw267_5)).trans hw267_5), ((HB.out.cell (World.block_lt_of_cell? w _ hw267_6)).trans hw267_6), ((HB.out.cell (World.block_lt_of_cell? w _ hw267_7)).trans hw267_7), ((HB.out.cell (World.block_lt_of_cell? w _ hw267_8)).trans hw267_8), ((HB.out.cell (World.block_lt_of_cell? w _ hw267_9)).trans hw267_9), ((HB.out.cell (World.block_lt_of_cell? w _ hw268_0)).trans hw268_0), ((HB.out.cell (World.block_lt_of_cell? w _ hw268_1)).trans hw268_1), ((HB.out.cell (World.block_lt_of_cell? w _ hw268_2)).trans hw268_2), ((HB.out.cell (World.block_lt_of_cell? w _ hw268_3)).trans hw268_3), ((HB.out.cell (World.block_lt_of_cell? w _ hw268_4)).trans hw268_4), ((HB.out.cell (World.block_lt_of_cell? w _ hw268_5)).trans hw268_5), ((HB.out.cell (World.block_lt_of_cell? w _ hw268_6)).trans hw268_6), ((HB.out.cell (World.block_lt_of_cell? w _ hw268_7)).trans hw268_7), ((HB.out.cell (World.block_lt_of_cell? w _ hw268_8)).trans hw268_8), ((HB.out.cell (World.block_lt_of_cell? w _ hw268_9)).trans hw268_9)⟩ (fun hHeld => ?_)
        clear hK K
        refine norm_ (a' := ?_) ?_ ?_
        rotate_left
        ·show Act.put _ (some 25) _ = _
         simp only [Act.put, List.setIfInBounds_toArray, List.set_cons_zero, List.set_cons_succ, i64_w, i32_w]
         rfl
        refine pureZ_ (i := 9) (some 26) #[true, true, true, true, true, true, true, true, true, true] (any_of HT_.out (by kernel_rfl)) ?_
        refine done_ (done_of HT_.out (by kernel_rfl)) ?_
        try go_wp2
        go_roundg k1
        case measure => have := HK1.out; omega
        case rel => exact ⟨(wrap64 (x5_1 + 1)), (by first | rfl | (simp; done) | (simp [*]; done)), H', ⟨by have := HK1.out; omega⟩, ⟨bl_⟩⟩
       ·replace c8 := Bool.eq_false_iff.mpr c8
        subst c8
        replace H := ite_f_ H
        obtain rfl := Option.some.inj H
        try go_wp2
        replace HB := Aside0.mk (below_drew1 HB.out)
        have p267 : 0 ≤ (x5_1 : Int) := of_decide_eq_true (by first | (with_reducible assumption) | assumption)
        have q267 : x5_1 < (l0.length : Int) := of_decide_eq_true (by first | (with_reducible assumption) | assumption)
        obtain ⟨ad267, e267, hx267_0, hx267_1, hx267_2, hx267_3, hx267_4, hx267_5, hx267_6, hx267_7, hx267_8, hx267_9⟩ := at_T46 HR0.out x5_1 p267 q267
        have hw267_9 := hx267_9
        have hw267_8 := hx267_8
        have hw267_7 := hx267_7
        have hw267_6 := hx267_6
        have hw267_5 := hx267_5
        have hw267_4 := hx267_4
        have hw267_3 := hx267_3
        have hw267_2 := hx267_2
        have hw267_1 := hx267_1
        have hw267_0 := hx267_0
        cases e267
        replace hx267_0 := cb_ HB hx267_0
        replace hx267_1 := cb_ HB hx267_1
        replace hx267_2 := cb_ HB hx267_2
        replace hx267_3 := cb_ HB hx267_3
        replace hx267_4 := cb_ HB hx267_4
        replace hx267_5 := cb_ HB hx267_5
        replace hx267_6 := cb_ HB hx267_6
        replace hx267_7 := cb_ HB hx267_7
        replace hx267_8 := cb_ HB hx267_8
        replace hx267_9 := cb_ HB hx267_9
        replace p267 := eq_true p267
        replace q267 := eq_true q267
        have p268 : 0 ≤ (x5_1 : Int) := of_decide_eq_true (by first | (with_reducible assumption) | assumption)
        have q268 : x5_1 < (l1.length : Int) := of_decide_eq_true (by first | (with_reducible assumption) | assumption)
        obtain ⟨ad268, e268, hx268_0, hx268_1, hx268_2, hx268_3, hx268_4, hx268_5, hx268_6, hx268_7, hx268_8, hx268_9⟩ := at_T46 HR1.out x5_1 p268 q268
        have hw268_9 := hx268_9
        have hw268_8 := hx268_8
        have hw268_7 := hx268_7
        have hw268_6 := hx268_6
        have hw268_5 := hx268_5
        have hw268_4 := hx268_4
        have hw268_3 := hx268_3
        have hw268_2 := hx268_2
        have hw268_1 := hx268_1
        have hw268_0 := hx268_0
        cases e268
        replace hx268_0 := cb_ HB hx268_0
        replace hx268_1 := cb_ HB hx268_1
        replace hx268_2 := cb_ HB hx268_2
        replace hx268_3 := cb_ HB hx268_3
        replace hx268_4 := cb_ HB hx268_4
        replace hx268_5 := cb_ HB hx268_5
        replace hx268_6 := cb_ HB hx268_6
        replace hx268_7 := cb_ HB hx268_7
        replace hx268_8 := cb_ HB hx268_8
        replace hx268_9 := cb_ HB hx268_9
        replace p268 := eq_true p268
        replace q268 := eq_true q268
        refine start_ (n := 10) (S := fun w' => w'.cell? (ad267.add ((x5_1).toNat * 10)) = some (.int .i64 ((rd_T46 l0 x5_1).f0)) ∧ w'.cell? ⟨(ad267.add ((x5_1).toNat * 10)).block, (ad267.add ((x5_1).toNat * 10)).off + 1, none⟩ = some (.int .i64 ((rd_T46 l0 x5_1).f1.f0)) ∧ w'.cell? ⟨(ad267.add ((x5_1).toNat * 10)).block, (ad267.add ((x5_1).toNat * 10)).off + 2, none⟩ = some (.int .i64 ((rd_T46 l0 x5_1).f1.f1)) ∧ w'.cell? ⟨(ad267.add ((x5_1).toNat * 10)).block, (ad267.add ((x5_1).toNat * 10)).off + 3, none⟩ = some (.int .i64 ((rd_T46 l0 x5_1).f2)) ∧ w'.cell? ⟨(ad267.add ((x5_1).toNat * 10)).block, (ad267.add ((x5_1).toNat * 10)).off + 4, none⟩ = some (.int .i64 ((rd_T46 l0 x5_1).f3.f0)) ∧ w'.cell? ⟨(ad267.add ((x5_1).toNat * 10)).block, (ad267.add ((x5_1).toNat * 10)).off + 5, none⟩ = some (.int .i64 ((rd_T46 l0 x5_1).f3.f1)) ∧ w'.cell? ⟨(ad267.add ((x5_1).toNat * 10)).block, (ad267.add ((x5_1).toNat * 10)).off + 6, none⟩ = some (.int .i64 ((rd_T46 l0 x5_1).f4.f0)) ∧ w'.cell? ⟨(ad267.add ((x5_1).toNat * 10)).block, (ad267.add ((x5_1).toNat * 10)).off + 7, none⟩ = some (.int .i64 ((rd_T46 l0 x5_1).f4.f1)) ∧ w'.cell? ⟨(ad267.add ((x5_1).toNat * 10)).block, (ad267.add ((x5_1).toNat * 10)).off + 8, none⟩ = some (.int .i64 ((rd_T46 l0 x5_1).f5)) ∧ w'.cell? ⟨(ad267.add ((x5_1).toNat * 10)).block, (ad267.add ((x5_1).toNat * 10)).off + 9, none⟩ = some (.int .i64 ((rd_T46 l0 x5_1).f6)) ∧ w'.cell? (ad268.add ((x5_1).toNat * 10)) = some (.int .i64 ((rd_T46 l1 x5_1).f0)) ∧ w'.cell? ⟨(ad268.add ((x5_1).toNat * 10)).block, (ad268.add ((x5_1).toNat * 10)).off + 1, none⟩ = some (.int .i64 ((rd_T46 l1 x5_1).f1.f0)) ∧ w'.cell? ⟨(ad268.add ((x5_1).toNat * 10)).block, (ad268.add ((x5_1).toNat * 10)).off + 2, none⟩ = some (.int .i64 ((rd_T46 l1 x5_1).f1.f1)) ∧ w'.cell? ⟨(ad268.add ((x5_1).toNat * 10)).block, (ad268.add ((x5_1).toNat * 10)).off + 3, none⟩ = some (.int .i64 ((rd_T46 l1 x5_1).f2)) ∧ w'.cell? ⟨(ad268.add ((x5_1).toNat * 10)).block, (ad268.add ((x5_1).toNat * 10)).off + 4, none⟩ = some (.int .i64 ((rd_T46 l1 x5_1).f3.f0)) ∧ w'.cell? ⟨(ad268.add ((x5_1).toNat * 10)).block, (ad268.add ((x5_1).toNat * 10)).off + 5, none⟩ = some (.int .i64 ((rd_T46 l1 x5_1).f3.f1)) ∧ w'.cell? ⟨(ad268.add ((x5_1).toNat * 10)).block, (ad268.add ((x5_1).toNat * 10)).off + 6, none⟩ = some (.int .i64 ((rd_T46 l1 x5_1).f4.f0)) ∧ w'.cell? ⟨(ad268.add ((x5_1).toNat * 10)).block, (ad268.add ((x5_1).toNat * 10)).off + 7, none⟩ = some (.int .i64 ((rd_T46 l1 x5_1).f4.f1)) ∧ w'.cell? ⟨(ad268.add ((x5_1).toNat * 10)).block, (ad268.add ((x5_1).toNat * 10)).off + 8, none⟩ = some (.int .i64 ((rd_T46 l1 x5_1).f5)) ∧ w'.cell? ⟨(ad268.add ((x5_1).toNat * 10)).block, (ad268.add ((x5_1).toNat * 10)).off + 9, none⟩ = some (.int .i64 ((rd_T46 l1 x5_1).f6))) (ds := []) #[false, false, false, false, false, false, false, false, false, false] (by kernel_rfl) rfl rfl ⟨((HB.out.cell (World.block_lt_of_cell? w _ hw267_0)).trans hw267_0), ((HB.out.cell (World.block_lt_of_cell? w _ hw267_1)).trans hw267_1), ((HB.out.cell (World.block_lt_of_cell? w _ hw267_2)).trans hw267_2), ((HB.out.cell (World.block_lt_of_cell? w _ hw267_3)).trans hw267_3), ((HB.out.cell (World.block_lt_of_cell? w _ hw267_4)).trans hw267_4), ((HB.out.cell (World.block_lt_of_cell? w _ hw267_5)).trans hw267_5), ((HB.out.cell (World.block_lt_of_cell? w _ hw267_6)).trans hw267_6), ((HB.out.cell (World.block_lt_of_cell? w _ hw267_7)).trans hw267_7), ((HB.out.cell (World.block_lt_of_cell? w _ hw267_8)).trans hw267_8), ((HB.out.cell (World.block_lt_of_cell? w _ hw267_9)).trans hw267_9), ((HB.out.cell (World.block_lt_of_cell? w _ hw268_0)).trans hw268_0), ((HB.out.cell (World.block_lt_of_cell? w _ hw268_1)).trans hw268_1), ((HB.out.cell (World.block_lt_of_cell? w _ hw268_2)).trans hw268_2), ((HB.out.cell (World.block_lt_of_cell? w _ hw268_3)).trans hw268_3), ((HB.out.cell (World.block_lt_of_cell? w _ hw268_4)).trans hw268_4), ((HB.out.cell (World.block_lt_of_cell? w _ hw268_5)).trans hw268_5), ((HB.out.cell (World.block_lt_of_cell? w _ hw268_6)).trans hw268_6), ((HB.out.cell (World.block_lt_of_cell? w _ hw268_7)).trans hw268_7), ((HB.out.cell (World.block_lt_of_cell? w _ hw268_8)).trans hw268_8), ((HB.out.cell (World.block_lt_of_cell? w _ hw268_9)).trans hw268_9)⟩ (fun hHeld => ?_); refine with_tabW laws_eqCredS.tab6 laws_eqCredS.bits6 (fun HT_ HW_ => ?_)
        generalize wr.drew = w11 at HB hx267_0 hx267_1 hx267_2 hx267_3 hx267_4 hx267_5 hx267_6 hx267_7 hx267_8 hx267_9 hx268_0 hx268_1 hx268_2 hx268_3 hx268_4 hx268_5 hx268_6 hx268_7 hx268_8 hx268_9 hHeld ⊢
        refine pureZ_ (i := 0) (some 17) #[true, false, false, false, false, false, false, false, false, false] (any_of HT_.out (by kernel_rfl)) ?_
        refine pureZ_ (i := 1) (some 18) #[true, true, false, false, false, false, false, false, false, false] (any_of HT_.out (by kernel_rfl)) ?_
        refine pureZ_ (i := 2) (some 19) #[true, true, true, false, false, false, false, false, false, false] (any_of HT_.out (by kernel_rfl)) ?_
        refine pureZ_ (i := 4) (some 21) #[true, true, true, false, true, false, false, false, false, false] (any_of HT_.out (by kernel_rfl)) ?_
        refine pureZ_ (i := 5) (some 22) #[true, true, true, false, true, true, false, false, false, false] (any_of HT_.out (by kernel_rfl)) ?_
        refine pureZ_ (i := 6) (some 23) #[true, true, true, false, true, true, true, false, false, false] (any_of HT_.out (by kernel_rfl)) ?_
        refine takeZ_ (i := 3) (some 20) #[true, true, true, true, true, true, true, false, false, false] (take_ofW HT_.out HW_.out (by kernel_rfl)) hHeld ?_
        refine takeZ_ (i := 7) (some 24) #[true, true, true, true, true, true, true, true, false, false] (take_ofW HT_.out HW_.out (by kernel_rfl)) hHeld ?_
        refine one_ (i := 8) (N := some 25) #[true, true, true, true, true, true, true, true, true, false] rfl rfl (one_of HT_.out (by kernel_rfl)) (by decide) (fun K hK => ?_)
        refine goes_ Try.func95 (by kernel_rfl) rfl #[.agg #[.int .i64 ((rd_T46 l0 x5_1).f0), .int .i64 ((rd_T46 l0 x5_1).f1.f0), .int .i64 ((rd_T46 l0 x5_1).f1.f1), .int .i64 ((rd_T46 l0 x5_1).f2), .int .i64 ((rd_T46 l0 x5_1).f3.f0), .int .i64 ((rd_T46 l0 x5_1).f3.f1), .int .i64 ((rd_T46 l0 x5_1).f4.f0), .int .i64 ((rd_T46 l0 x5_1).f4.f1), .int .i64 ((rd_T46 l0 x5_1).f5), .int .i64 ((rd_T46 l0 x5_1).f6)], .agg #[.int .i64 ((rd_T46 l1 x5_1).f0), .int .i64 ((rd_T46 l1 x5_1).f1.f0), .int .i64 ((rd_T46 l1 x5_1).f1.f1), .int .i64 ((rd_T46 l1 x5_1).f2), .int .i64 ((rd_T46 l1 x5_1).f3.f0), .int .i64 ((rd_T46 l1 x5_1).f3.f1), .int .i64 ((rd_T46 l1 x5_1).f4.f0), .int .i64 ((rd_T46 l1 x5_1).f4.f1), .int .i64 ((rd_T46 l1 x5_1).f5), .int .i64 ((rd_T46 l1 x5_1).f6)]] (by rfl) rfl rfl (by (try simp only [List.map_toArray, List.map_cons, List.map_nil]); first | done | rfl | (simp only [List.length_drop, List.length_take]; rfl)) ?_
        with_reducible refine (laws_eqCred.calls ((rd_T46 l0 x5_1).f0) ((rd_T46 l0 x5_1).f1.f0) ((rd_T46 l0 x5_1).f1.f1) ((rd_T46 l0 x5_1).f2) ((rd_T46 l0 x5_1).f3.f0) ((rd_T46 l0 x5_1).f3.f1) ((rd_T46 l0 x5_1).f4.f0) ((rd_T46 l0 x5_1).f4.f1) ((rd_T46 l0 x5_1).f5) ((rd_T46 l0 x5_1).f6) ((rd_T46 l1 x5_1).f0) ((rd_T46 l1 x5_1).f1.f0) ((rd_T46 l1 x5_1).f1.f1) ((rd_T46 l1 x5_1).f2) ((rd_T46 l1 x5_1).f3.f0) ((rd_T46 l1 x5_1).f3.f1) ((rd_T46 l1 x5_1).f4.f0) ((rd_T46 l1 x5_1).f4.f1) ((rd_T46 l1 x5_1).f5) ((rd_T46 l1 x5_1).f6) false _ A7.out).mono ?_
        rintro e w12 ⟨rfl, hb⟩
        refine ⟨_, rfl, ?_⟩
        replace HB := hbs_ hb
        (try clear hb)
        (try clear hb2)
        (try clear hk)
        (try clear hi)
        refine hK.out _ _ ⟨((HB.out.cell (World.block_lt_of_cell? w _ hw267_0)).trans hw267_0), ((HB.out.cell (World.block_lt_of_cell? w _ hw267_1)).trans hw267_1), ((HB.out.cell (World.block_lt_of_cell? w _ hw267_2)).trans hw267_2), ((HB.out.cell (World.block_lt_of_cell? w _ hw267_3)).trans hw267_3), ((HB.out.cell (World.block_lt_of_cell? w _ hw267_4)).trans hw267_4), ((HB.out.cell (World.block_lt_of_cell? w _ hw267_5)).trans hw267_5), ((HB.out.cell (World.block_lt_of_cell? w _ hw267_6)).trans hw267_6), ((HB.out.cell (World.block_lt_of_cell? w _ hw267_7)).trans hw267_7), ((HB.out.cell (World.block_lt_of_cell? w _ hw267_8)).trans hw267_8), ((HB.out.cell (World.block_lt_of_cell? w _ hw267_9)).trans hw267_9), ((HB.out.cell (World.block_lt_of_cell? w _ hw268_0)).trans hw268_0), ((HB.out.cell (World.block_lt_of_cell? w _ hw268_1)).trans hw268_1), ((HB.out.cell (World.block_lt_of_cell? w _ hw268_2)).trans hw268_2), ((HB.out.cell (World.block_lt_of_cell? w _ hw268_3)).trans hw268_3), ((HB.out.cell (World.block_lt_of_cell? w _ hw268_4)).trans hw268_4), ((HB.out.cell (World.block_lt_of_cell? w _ hw268_5)).trans hw268_5), ((HB.out.cell (World.block_lt_of_cell? w _ hw268_6)).trans hw268_6), ((HB.out.cell (World.block_lt_of_cell? w _ hw268_7)).trans hw268_7), ((HB.out.cell (World.block_lt_of_cell? w _ hw268_8)).trans hw268_8), ((HB.out.cell (World.block_lt_of_cell? w _ hw268_9)).trans hw268_9)⟩ (fun hHeld => ?_)
        clear hK K
        refine norm_ (a' := ?_) ?_ ?_
        rotate_left
        ·show Act.put _ (some 25) _ = _
         simp only [Act.put, List.setIfInBounds_toArray, List.set_cons_zero, List.set_cons_succ, i64_w, i32_w]
         rfl
        refine pureZ_ (i := 9) (some 26) #[true, true, true, true, true, true, true, true, true, true] (any_of HT_.out (by kernel_rfl)) ?_
        refine done_ (done_of HT_.out (by kernel_rfl)) ?_
        try go_wp2
        go_ret
        exact ⟨eq_, bl_⟩
      ·rw [if_neg c6] at H
       exact absurd H (by simp)
     ·rw [if_neg c5] at H
      exact absurd H (by simp)
    ·rw [if_neg c4] at H
     have c4b0 : decide (x5_1 < (l0.length : Int)) = false := decide_eq_false c4
     clear c4
     obtain rfl := Option.some.inj H
     go_wp2
     go_ret
     exact ⟨eq_, bl_⟩
 ·rw [if_neg c3] at H
  have c3b0 : ((l0.length : Int) == (l1.length : Int)) = false := beq_eq_false_iff_ne.mpr c3
  have c3b1 : ((l0.length : Int) != (l1.length : Int)) = true := bne_iff_ne.mpr c3
  have c3b2 : (l0.length == l1.length) = false := by first | simpa using c3 | (simp at c3 ⊢; omega)
  obtain rfl := Option.some.inj H
  go_enter Try.func41, Try.ntmps41
  go_wp2
  go_ret
  exact ⟨eq_, bl_⟩
end Go.Proofs.Ytppdmcimddhbaaa.PD
