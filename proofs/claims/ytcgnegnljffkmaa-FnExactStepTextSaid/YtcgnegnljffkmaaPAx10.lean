-- A text of this claim: written by the session's own program out of the translation (wip/tools). Lean checks it.
import Derived.Test.YtcgnegnljffkmaaPAx0
import Derived.Test.YtcgnegnljffkmaaPAx6
namespace Go.Proofs.Ytcgnegnljffkmaa.PA
open Go.RowKit Go.Proofs.YtcgnegnljffkmaaW.PrintWords Go.Proofs.YtcgnegnljffkmaaW.PrintLast Go.Proofs.YtcgnegnljffkmaaW.PrintMore
attribute [local go_sem] max2_int min2_int max_two min_two max_three min_three max_four min_four   -- for this text's walks alone
set_option linter.unusedVariables false
set_option linter.unusedSimpArgs false

/-! ### laws_eqCred: function 87 -/
def laws_eqCred.f (a0_0 : Int) (a0_1 : Int) (a0_2 : Int) (a0_3 : Int) (a0_4 : Int) (a0_5 : Int) (a0_6 : Int) (a0_7 : Int) (a0_8 : Int) (a0_9 : Int) (a1_0 : Int) (a1_1 : Int) (a1_2 : Int) (a1_3 : Int) (a1_4 : Int) (a1_5 : Int) (a1_6 : Int) (a1_7 : Int) (a1_8 : Int) (a1_9 : Int) : Option (Bool) := if a0_0 = a1_0 then ((laws_eqRole.f a0_1 a0_2 a1_1 a1_2).bind fun t371 => (if t371 = true then (if a0_3 = a1_3 then ((laws_eqRole.f a0_4 a0_5 a1_4 a1_5).bind fun t372 => (if t372 = true then ((laws_eqRole.f a0_6 a0_7 a1_6 a1_7).bind fun t373 => (if t373 = true then (if a0_8 = a1_8 then (if a0_9 = a1_9 then (some true) else (some false)) else (some false)) else (some false))) else (some false))) else (some false)) else (some false))) else (some false)
set_option maxHeartbeats 8000000 in
set_option maxRecDepth 100000 in
theorem laws_eqCred.calls (a0_0 : Int) (a0_1 : Int) (a0_2 : Int) (a0_3 : Int) (a0_4 : Int) (a0_5 : Int) (a0_6 : Int) (a0_7 : Int) (a0_8 : Int) (a0_9 : Int) (a1_0 : Int) (a1_1 : Int) (a1_2 : Int) (a1_3 : Int) (a1_4 : Int) (a1_5 : Int) (a1_6 : Int) (a1_7 : Int) (a1_8 : Int) (a1_9 : Int) (r : Bool) (w : World) (h : laws_eqCred.f a0_0 a0_1 a0_2 a0_3 a0_4 a0_5 a0_6 a0_7 a0_8 a0_9 a1_0 a1_1 a1_2 a1_3 a1_4 a1_5 a1_6 a1_7 a1_8 a1_9 = some r) :
    Calls Try.prog 87 #[.agg #[.int .i64 a0_0, .int .i64 a0_1, .int .i64 a0_2, .int .i64 a0_3, .int .i64 a0_4, .int .i64 a0_5, .int .i64 a0_6, .int .i64 a0_7, .int .i64 a0_8, .int .i64 a0_9], .agg #[.int .i64 a1_0, .int .i64 a1_1, .int .i64 a1_2, .int .i64 a1_3, .int .i64 a1_4, .int .i64 a1_5, .int .i64 a1_6, .int .i64 a1_7, .int .i64 a1_8, .int .i64 a1_9]] w fun e w' => e = .returned (.bool r) ∧ Below w.heap.size w w' := by
  have hu29 := Try.underlying29
  have hu27 := Try.underlying27
  have HB := Aside0.mk (Below.refl w.heap.size w)
  have H : (if a0_0 = a1_0 then ((laws_eqRole.f a0_1 a0_2 a1_1 a1_2).bind fun t371 => (if t371 = true then (if a0_3 = a1_3 then ((laws_eqRole.f a0_4 a0_5 a1_4 a1_5).bind fun t372 => (if t372 = true then ((laws_eqRole.f a0_6 a0_7 a1_6 a1_7).bind fun t373 => (if t373 = true then (if a0_8 = a1_8 then (if a0_9 = a1_9 then (some true) else (some false)) else (some false)) else (some false))) else (some false))) else (some false)) else (some false))) else (some false)) = some r := h
  clear h
  by_cases c3 : a0_0 = a1_0
  · rw [if_pos c3] at H
    have c3b0 : (a0_0 == a1_0) = true := beq_iff_eq.mpr c3
    have c3b1 : (a0_0 != a1_0) = false := bne_eq_false_iff_eq.mpr c3
    clear c3
    obtain ⟨t371, A4, H⟩ := bindE_ H
    by_cases c5 : t371 = true
    · subst c5
      replace H := ite_t_ H
      by_cases c6 : a0_3 = a1_3
      · rw [if_pos c6] at H
        have c6b0 : (a0_3 == a1_3) = true := beq_iff_eq.mpr c6
        have c6b1 : (a0_3 != a1_3) = false := bne_eq_false_iff_eq.mpr c6
        clear c6
        obtain ⟨t372, A7, H⟩ := bindE_ H
        by_cases c8 : t372 = true
        · subst c8
          replace H := ite_t_ H
          obtain ⟨t373, A9, H⟩ := bindE_ H
          by_cases c10 : t373 = true
          · subst c10
            replace H := ite_t_ H
            by_cases c11 : a0_8 = a1_8
            · rw [if_pos c11] at H
              have c11b0 : (a0_8 == a1_8) = true := beq_iff_eq.mpr c11
              have c11b1 : (a0_8 != a1_8) = false := bne_eq_false_iff_eq.mpr c11
              clear c11
              by_cases c12 : a0_9 = a1_9
              · rw [if_pos c12] at H
                have c12b0 : (a0_9 == a1_9) = true := beq_iff_eq.mpr c12
                have c12b1 : (a0_9 != a1_9) = false := bne_eq_false_iff_eq.mpr c12
                clear c12
                obtain rfl := Option.some.inj H
                go_enter Try.func87, Try.ntmps87
                go_wp2_with (first | ((with_reducible refine gate_dst (N := 2) rfl ?_); refine box_event ?hg (N := 2) ?hd (cs := #[.int .i64 a0_0, .int .i64 a0_1, .int .i64 a0_2, .int .i64 a0_3, .int .i64 a0_4, .int .i64 a0_5, .int .i64 a0_6, .int .i64 a0_7, .int .i64 a0_8, .int .i64 a0_9]) (t := 29) ?hr ?_; (case hd => rfl); (case hg => rfl); (case hr => first | (go_simp; done) | (go_simp; rfl)); intro gb369 hg w13 hbox hb; have BK369 := Aside0.mk (hbox); have GW369 := gs_ hg; have GE369 := gs_ hg; replace HB := hbs_ hb; clear hb hbox hg) | ((with_reducible refine gate_dst (N := 3) rfl ?_); refine box_event ?hg (N := 3) ?hd (cs := #[.int .i64 a1_0, .int .i64 a1_1, .int .i64 a1_2, .int .i64 a1_3, .int .i64 a1_4, .int .i64 a1_5, .int .i64 a1_6, .int .i64 a1_7, .int .i64 a1_8, .int .i64 a1_9]) (t := 29) ?hr ?_; (case hd => rfl); (case hg => rfl); (case hr => first | (go_simp; done) | (go_simp; rfl)); intro gb370 hg w14 hbox hb; have BK370 := Aside0.mk (hbox); have GW370 := gs_ hg; have GE370 := gs_ hg; replace HB := hbs_ hb; have NB369_370 := Aside0.mk ((by rw [hg]; exact Nat.ne_of_lt (blk_lt (g := gb369) (o := .cells #[.int .i64 a0_0, .int .i64 a0_1, .int .i64 a0_2, .int .i64 a0_3, .int .i64 a0_4, .int .i64 a0_5, .int .i64 a0_6, .int .i64 a0_7, .int .i64 a0_8, .int .i64 a0_9] 29 (0, 0)) (bk_ BK369)) : gb369 ≠ gb370)); have NB370_369 := Aside0.mk ((by rw [hg]; exact Nat.ne_of_gt (blk_lt (g := gb369) (o := .cells #[.int .i64 a0_0, .int .i64 a0_1, .int .i64 a0_2, .int .i64 a0_3, .int .i64 a0_4, .int .i64 a0_5, .int .i64 a0_6, .int .i64 a0_7, .int .i64 a0_8, .int .i64 a0_9] 29 (0, 0)) (bk_ BK369)) : gb370 ≠ gb369)); replace BK369 := bkb_ BK369 hb; clear hb hbox hg; have hnb15 := NB369_370.out; have hnc15 := NB370_369.out; have hcz16 := blk_cell BK369.out; have hfz16 := blk_frozen BK369.out; have hcz17 := blk_cell BK370.out; have hfz17 := blk_frozen BK370.out) | ((with_reducible refine gate_callee (f := 114) rfl ?_); refine goesC_ (some 14) Try.func114 #[.agg #[.int .i64 a0_1, .int .i64 a0_2], .agg #[.int .i64 a1_1, .int .i64 a1_2]] ?_; (with_reducible refine (laws_eqRole.calls a0_1 a0_2 a1_1 a1_2 true _ A4.out).mono ?_); rintro e w18 ⟨rfl, hb⟩; refine ⟨_, rfl, ?_⟩; replace BK369 := bkb_ BK369 hb; replace BK370 := bkb_ BK370 hb; replace HB := hbs_ hb; clear hb; have hcz19 := blk_cell BK369.out; have hfz19 := blk_frozen BK369.out; have hcz20 := blk_cell BK370.out; have hfz20 := blk_frozen BK370.out) | ((with_reducible refine gate_callee (f := 114) rfl ?_); refine goesC_ (some 25) Try.func114 #[.agg #[.int .i64 a0_4, .int .i64 a0_5], .agg #[.int .i64 a1_4, .int .i64 a1_5]] ?_; (with_reducible refine (laws_eqRole.calls a0_4 a0_5 a1_4 a1_5 true _ A7.out).mono ?_); rintro e w21 ⟨rfl, hb⟩; refine ⟨_, rfl, ?_⟩; replace BK369 := bkb_ BK369 hb; replace BK370 := bkb_ BK370 hb; replace HB := hbs_ hb; clear hb; have hcz22 := blk_cell BK369.out; have hfz22 := blk_frozen BK369.out; have hcz23 := blk_cell BK370.out; have hfz23 := blk_frozen BK370.out) | ((with_reducible refine gate_callee (f := 114) rfl ?_); refine goesC_ (some 31) Try.func114 #[.agg #[.int .i64 a0_6, .int .i64 a0_7], .agg #[.int .i64 a1_6, .int .i64 a1_7]] ?_; (with_reducible refine (laws_eqRole.calls a0_6 a0_7 a1_6 a1_7 true _ A9.out).mono ?_); rintro e w24 ⟨rfl, hb⟩; refine ⟨_, rfl, ?_⟩; replace BK369 := bkb_ BK369 hb; replace BK370 := bkb_ BK370 hb; replace HB := hbs_ hb; clear hb; have hcz25 := blk_cell BK369.out; have hfz25 := blk_frozen BK369.out; have hcz26 := blk_cell BK370.out; have hfz26 := blk_frozen BK370.out))
                go_ret
                exact ⟨eq_, bl_⟩
              · rw [if_neg c12] at H
                have c12b0 : (a0_9 == a1_9) = false := beq_eq_false_iff_ne.mpr c12
                have c12b1 : (a0_9 != a1_9) = true := bne_iff_ne.mpr c12
                obtain rfl := Option.some.inj H
                go_enter Try.func87, Try.ntmps87
                go_wp2_with (first | ((with_reducible refine gate_dst (N := 2) rfl ?_); refine box_event ?hg (N := 2) ?hd (cs := #[.int .i64 a0_0, .int .i64 a0_1, .int .i64 a0_2, .int .i64 a0_3, .int .i64 a0_4, .int .i64 a0_5, .int .i64 a0_6, .int .i64 a0_7, .int .i64 a0_8, .int .i64 a0_9]) (t := 29) ?hr ?_; (case hd => rfl); (case hg => rfl); (case hr => first | (go_simp; done) | (go_simp; rfl)); intro gb369 hg w27 hbox hb; have BK369 := Aside0.mk (hbox); have GW369 := gs_ hg; have GE369 := gs_ hg; replace HB := hbs_ hb; clear hb hbox hg) | ((with_reducible refine gate_dst (N := 3) rfl ?_); refine box_event ?hg (N := 3) ?hd (cs := #[.int .i64 a1_0, .int .i64 a1_1, .int .i64 a1_2, .int .i64 a1_3, .int .i64 a1_4, .int .i64 a1_5, .int .i64 a1_6, .int .i64 a1_7, .int .i64 a1_8, .int .i64 a1_9]) (t := 29) ?hr ?_; (case hd => rfl); (case hg => rfl); (case hr => first | (go_simp; done) | (go_simp; rfl)); intro gb370 hg w28 hbox hb; have BK370 := Aside0.mk (hbox); have GW370 := gs_ hg; have GE370 := gs_ hg; replace HB := hbs_ hb; have NB369_370 := Aside0.mk ((by rw [hg]; exact Nat.ne_of_lt (blk_lt (g := gb369) (o := .cells #[.int .i64 a0_0, .int .i64 a0_1, .int .i64 a0_2, .int .i64 a0_3, .int .i64 a0_4, .int .i64 a0_5, .int .i64 a0_6, .int .i64 a0_7, .int .i64 a0_8, .int .i64 a0_9] 29 (0, 0)) (bk_ BK369)) : gb369 ≠ gb370)); have NB370_369 := Aside0.mk ((by rw [hg]; exact Nat.ne_of_gt (blk_lt (g := gb369) (o := .cells #[.int .i64 a0_0, .int .i64 a0_1, .int .i64 a0_2, .int .i64 a0_3, .int .i64 a0_4, .int .i64 a0_5, .int .i64 a0_6, .int .i64 a0_7, .int .i64 a0_8, .int .i64 a0_9] 29 (0, 0)) (bk_ BK369)) : gb370 ≠ gb369)); replace BK369 := bkb_ BK369 hb; clear hb hbox hg; have hnb29 := NB369_370.out; have hnc29 := NB370_369.out; have hcz30 := blk_cell BK369.out; have hfz30 := blk_frozen BK369.out; have hcz31 := blk_cell BK370.out; have hfz31 := blk_frozen BK370.out) | ((with_reducible refine gate_callee (f := 114) rfl ?_); refine goesC_ (some 14) Try.func114 #[.agg #[.int .i64 a0_1, .int .i64 a0_2], .agg #[.int .i64 a1_1, .int .i64 a1_2]] ?_; (with_reducible refine (laws_eqRole.calls a0_1 a0_2 a1_1 a1_2 true _ A4.out).mono ?_); rintro e w32 ⟨rfl, hb⟩; refine ⟨_, rfl, ?_⟩; replace BK369 := bkb_ BK369 hb; replace BK370 := bkb_ BK370 hb; replace HB := hbs_ hb; clear hb; have hcz33 := blk_cell BK369.out; have hfz33 := blk_frozen BK369.out; have hcz34 := blk_cell BK370.out; have hfz34 := blk_frozen BK370.out) | ((with_reducible refine gate_callee (f := 114) rfl ?_); refine goesC_ (some 25) Try.func114 #[.agg #[.int .i64 a0_4, .int .i64 a0_5], .agg #[.int .i64 a1_4, .int .i64 a1_5]] ?_; (with_reducible refine (laws_eqRole.calls a0_4 a0_5 a1_4 a1_5 true _ A7.out).mono ?_); rintro e w35 ⟨rfl, hb⟩; refine ⟨_, rfl, ?_⟩; replace BK369 := bkb_ BK369 hb; replace BK370 := bkb_ BK370 hb; replace HB := hbs_ hb; clear hb; have hcz36 := blk_cell BK369.out; have hfz36 := blk_frozen BK369.out; have hcz37 := blk_cell BK370.out; have hfz37 := blk_frozen BK370.out) | ((with_reducible refine gate_callee (f := 114) rfl ?_); refine goesC_ (some 31) Try.func114 #[.agg #[.int .i64 a0_6, .int .i64 a0_7], .agg #[.int .i64 a1_6, .int .i64 a1_7]] ?_; (with_reducible refine (laws_eqRole.calls a0_6 a0_7 a1_6 a1_7 true _ A9.out).mono ?_); rintro e w38 ⟨rfl, hb⟩; refine ⟨_, rfl, ?_⟩; replace BK369 := bkb_ BK369 hb; replace BK370 := bkb_ BK370 hb; replace HB := hbs_ hb; clear hb; have hcz39 := blk_cell BK369.out; have hfz39 := blk_frozen BK369.out; have hcz40 := blk_cell BK370.out; have hfz40 := blk_frozen BK370.out))
                go_ret
                exact ⟨eq_, bl_⟩
            · rw [if_neg c11] at H
              have c11b0 : (a0_8 == a1_8) = false := beq_eq_false_iff_ne.mpr c11
              have c11b1 : (a0_8 != a1_8) = true := bne_iff_ne.mpr c11
              obtain rfl := Option.some.inj H
              go_enter Try.func87, Try.ntmps87
              go_wp2_with (first | ((with_reducible refine gate_dst (N := 2) rfl ?_); refine box_event ?hg (N := 2) ?hd (cs := #[.int .i64 a0_0, .int .i64 a0_1, .int .i64 a0_2, .int .i64 a0_3, .int .i64 a0_4, .int .i64 a0_5, .int .i64 a0_6, .int .i64 a0_7, .int .i64 a0_8, .int .i64 a0_9]) (t := 29) ?hr ?_; (case hd => rfl); (case hg => rfl); (case hr => first | (go_simp; done) | (go_simp; rfl)); intro gb369 hg w41 hbox hb; have BK369 := Aside0.mk (hbox); have GW369 := gs_ hg; have GE369 := gs_ hg; replace HB := hbs_ hb; clear hb hbox hg) | ((with_reducible refine gate_dst (N := 3) rfl ?_); refine box_event ?hg (N := 3) ?hd (cs := #[.int .i64 a1_0, .int .i64 a1_1, .int .i64 a1_2, .int .i64 a1_3, .int .i64 a1_4, .int .i64 a1_5, .int .i64 a1_6, .int .i64 a1_7, .int .i64 a1_8, .int .i64 a1_9]) (t := 29) ?hr ?_; (case hd => rfl); (case hg => rfl); (case hr => first | (go_simp; done) | (go_simp; rfl)); intro gb370 hg w42 hbox hb; have BK370 := Aside0.mk (hbox); have GW370 := gs_ hg; have GE370 := gs_ hg; replace HB := hbs_ hb; have NB369_370 := Aside0.mk ((by rw [hg]; exact Nat.ne_of_lt (blk_lt (g := gb369) (o := .cells #[.int .i64 a0_0, .int .i64 a0_1, .int .i64 a0_2, .int .i64 a0_3, .int .i64 a0_4, .int .i64 a0_5, .int .i64 a0_6, .int .i64 a0_7, .int .i64 a0_8, .int .i64 a0_9] 29 (0, 0)) (bk_ BK369)) : gb369 ≠ gb370)); have NB370_369 := Aside0.mk ((by rw [hg]; exact Nat.ne_of_gt (blk_lt (g := gb369) (o := .cells #[.int .i64 a0_0, .int .i64 a0_1, .int .i64 a0_2, .int .i64 a0_3, .int .i64 a0_4, .int .i64 a0_5, .int .i64 a0_6, .int .i64 a0_7, .int .i64 a0_8, .int .i64 a0_9] 29 (0, 0)) (bk_ BK369)) : gb370 ≠ gb369)); replace BK369 := bkb_ BK369 hb; clear hb hbox hg; have hnb43 := NB369_370.out; have hnc43 := NB370_369.out; have hcz44 := blk_cell BK369.out; have hfz44 := blk_frozen BK369.out; have hcz45 := blk_cell BK370.out; have hfz45 := blk_frozen BK370.out) | ((with_reducible refine gate_callee (f := 114) rfl ?_); refine goesC_ (some 14) Try.func114 #[.agg #[.int .i64 a0_1, .int .i64 a0_2], .agg #[.int .i64 a1_1, .int .i64 a1_2]] ?_; (with_reducible refine (laws_eqRole.calls a0_1 a0_2 a1_1 a1_2 true _ A4.out).mono ?_); rintro e w46 ⟨rfl, hb⟩; refine ⟨_, rfl, ?_⟩; replace BK369 := bkb_ BK369 hb; replace BK370 := bkb_ BK370 hb; replace HB := hbs_ hb; clear hb; have hcz47 := blk_cell BK369.out; have hfz47 := blk_frozen BK369.out; have hcz48 := blk_cell BK370.out; have hfz48 := blk_frozen BK370.out) | ((with_reducible refine gate_callee (f := 114) rfl ?_); refine goesC_ (some 25) Try.func114 #[.agg #[.int .i64 a0_4, .int .i64 a0_5], .agg #[.int .i64 a1_4, .int .i64 a1_5]] ?_; (with_reducible refine (laws_eqRole.calls a0_4 a0_5 a1_4 a1_5 true _ A7.out).mono ?_); rintro e w49 ⟨rfl, hb⟩; refine ⟨_, rfl, ?_⟩; replace BK369 := bkb_ BK369 hb; replace BK370 := bkb_ BK370 hb; replace HB := hbs_ hb; clear hb; have hcz50 := blk_cell BK369.out; have hfz50 := blk_frozen BK369.out; have hcz51 := blk_cell BK370.out; have hfz51 := blk_frozen BK370.out) | ((with_reducible refine gate_callee (f := 114) rfl ?_); refine goesC_ (some 31) Try.func114 #[.agg #[.int .i64 a0_6, .int .i64 a0_7], .agg #[.int .i64 a1_6, .int .i64 a1_7]] ?_; (with_reducible refine (laws_eqRole.calls a0_6 a0_7 a1_6 a1_7 true _ A9.out).mono ?_); rintro e w52 ⟨rfl, hb⟩; refine ⟨_, rfl, ?_⟩; replace BK369 := bkb_ BK369 hb; replace BK370 := bkb_ BK370 hb; replace HB := hbs_ hb; clear hb; have hcz53 := blk_cell BK369.out; have hfz53 := blk_frozen BK369.out; have hcz54 := blk_cell BK370.out; have hfz54 := blk_frozen BK370.out))
              go_ret
              exact ⟨eq_, bl_⟩
          · replace c10 := Bool.eq_false_iff.mpr c10
            subst c10
            replace H := ite_f_ H
            obtain rfl := Option.some.inj H
            go_enter Try.func87, Try.ntmps87
            go_wp2_with (first | ((with_reducible refine gate_dst (N := 2) rfl ?_); refine box_event ?hg (N := 2) ?hd (cs := #[.int .i64 a0_0, .int .i64 a0_1, .int .i64 a0_2, .int .i64 a0_3, .int .i64 a0_4, .int .i64 a0_5, .int .i64 a0_6, .int .i64 a0_7, .int .i64 a0_8, .int .i64 a0_9]) (t := 29) ?hr ?_; (case hd => rfl); (case hg => rfl); (case hr => first | (go_simp; done) | (go_simp; rfl)); intro gb369 hg w55 hbox hb; have BK369 := Aside0.mk (hbox); have GW369 := gs_ hg; have GE369 := gs_ hg; replace HB := hbs_ hb; clear hb hbox hg) | ((with_reducible refine gate_dst (N := 3) rfl ?_); refine box_event ?hg (N := 3) ?hd (cs := #[.int .i64 a1_0, .int .i64 a1_1, .int .i64 a1_2, .int .i64 a1_3, .int .i64 a1_4, .int .i64 a1_5, .int .i64 a1_6, .int .i64 a1_7, .int .i64 a1_8, .int .i64 a1_9]) (t := 29) ?hr ?_; (case hd => rfl); (case hg => rfl); (case hr => first | (go_simp; done) | (go_simp; rfl)); intro gb370 hg w56 hbox hb; have BK370 := Aside0.mk (hbox); have GW370 := gs_ hg; have GE370 := gs_ hg; replace HB := hbs_ hb; have NB369_370 := Aside0.mk ((by rw [hg]; exact Nat.ne_of_lt (blk_lt (g := gb369) (o := .cells #[.int .i64 a0_0, .int .i64 a0_1, .int .i64 a0_2, .int .i64 a0_3, .int .i64 a0_4, .int .i64 a0_5, .int .i64 a0_6, .int .i64 a0_7, .int .i64 a0_8, .int .i64 a0_9] 29 (0, 0)) (bk_ BK369)) : gb369 ≠ gb370)); have NB370_369 := Aside0.mk ((by rw [hg]; exact Nat.ne_of_gt (blk_lt (g := gb369) (o := .cells #[.int .i64 a0_0, .int .i64 a0_1, .int .i64 a0_2, .int .i64 a0_3, .int .i64 a0_4, .int .i64 a0_5, .int .i64 a0_6, .int .i64 a0_7, .int .i64 a0_8, .int .i64 a0_9] 29 (0, 0)) (bk_ BK369)) : gb370 ≠ gb369)); replace BK369 := bkb_ BK369 hb; clear hb hbox hg; have hnb57 := NB369_370.out; have hnc57 := NB370_369.out; have hcz58 := blk_cell BK369.out; have hfz58 := blk_frozen BK369.out; have hcz59 := blk_cell BK370.out; have hfz59 := blk_frozen BK370.out) | ((with_reducible refine gate_callee (f := 114) rfl ?_); refine goesC_ (some 14) Try.func114 #[.agg #[.int .i64 a0_1, .int .i64 a0_2], .agg #[.int .i64 a1_1, .int .i64 a1_2]] ?_; (with_reducible refine (laws_eqRole.calls a0_1 a0_2 a1_1 a1_2 true _ A4.out).mono ?_); rintro e w60 ⟨rfl, hb⟩; refine ⟨_, rfl, ?_⟩; replace BK369 := bkb_ BK369 hb; replace BK370 := bkb_ BK370 hb; replace HB := hbs_ hb; clear hb; have hcz61 := blk_cell BK369.out; have hfz61 := blk_frozen BK369.out; have hcz62 := blk_cell BK370.out; have hfz62 := blk_frozen BK370.out) | ((with_reducible refine gate_callee (f := 114) rfl ?_); refine goesC_ (some 25) Try.func114 #[.agg #[.int .i64 a0_4, .int .i64 a0_5], .agg #[.int .i64 a1_4, .int .i64 a1_5]] ?_; (with_reducible refine (laws_eqRole.calls a0_4 a0_5 a1_4 a1_5 true _ A7.out).mono ?_); rintro e w63 ⟨rfl, hb⟩; refine ⟨_, rfl, ?_⟩; replace BK369 := bkb_ BK369 hb; replace BK370 := bkb_ BK370 hb; replace HB := hbs_ hb; clear hb; have hcz64 := blk_cell BK369.out; have hfz64 := blk_frozen BK369.out; have hcz65 := blk_cell BK370.out; have hfz65 := blk_frozen BK370.out) | ((with_reducible refine gate_callee (f := 114) rfl ?_); refine goesC_ (some 31) Try.func114 #[.agg #[.int .i64 a0_6, .int .i64 a0_7], .agg #[.int .i64 a1_6, .int .i64 a1_7]] ?_; (with_reducible refine (laws_eqRole.calls a0_6 a0_7 a1_6 a1_7 false _ A9.out).mono ?_); rintro e w66 ⟨rfl, hb⟩; refine ⟨_, rfl, ?_⟩; replace BK369 := bkb_ BK369 hb; replace BK370 := bkb_ BK370 hb; replace HB := hbs_ hb; clear hb))
            go_ret
            exact ⟨eq_, bl_⟩
        · replace c8 := Bool.eq_false_iff.mpr c8
          subst c8
          replace H := ite_f_ H
          obtain rfl := Option.some.inj H
          go_enter Try.func87, Try.ntmps87
          go_wp2_with (first | ((with_reducible refine gate_dst (N := 2) rfl ?_); refine box_event ?hg (N := 2) ?hd (cs := #[.int .i64 a0_0, .int .i64 a0_1, .int .i64 a0_2, .int .i64 a0_3, .int .i64 a0_4, .int .i64 a0_5, .int .i64 a0_6, .int .i64 a0_7, .int .i64 a0_8, .int .i64 a0_9]) (t := 29) ?hr ?_; (case hd => rfl); (case hg => rfl); (case hr => first | (go_simp; done) | (go_simp; rfl)); intro gb369 hg w67 hbox hb; have BK369 := Aside0.mk (hbox); have GW369 := gs_ hg; have GE369 := gs_ hg; replace HB := hbs_ hb; clear hb hbox hg) | ((with_reducible refine gate_dst (N := 3) rfl ?_); refine box_event ?hg (N := 3) ?hd (cs := #[.int .i64 a1_0, .int .i64 a1_1, .int .i64 a1_2, .int .i64 a1_3, .int .i64 a1_4, .int .i64 a1_5, .int .i64 a1_6, .int .i64 a1_7, .int .i64 a1_8, .int .i64 a1_9]) (t := 29) ?hr ?_; (case hd => rfl); (case hg => rfl); (case hr => first | (go_simp; done) | (go_simp; rfl)); intro gb370 hg w68 hbox hb; have BK370 := Aside0.mk (hbox); have GW370 := gs_ hg; have GE370 := gs_ hg; replace HB := hbs_ hb; have NB369_370 := Aside0.mk ((by rw [hg]; exact Nat.ne_of_lt (blk_lt (g := gb369) (o := .cells #[.int .i64 a0_0, .int .i64 a0_1, .int .i64 a0_2, .int .i64 a0_3, .int .i64 a0_4, .int .i64 a0_5, .int .i64 a0_6, .int .i64 a0_7, .int .i64 a0_8, .int .i64 a0_9] 29 (0, 0)) (bk_ BK369)) : gb369 ≠ gb370)); have NB370_369 := Aside0.mk ((by rw [hg]; exact Nat.ne_of_gt (blk_lt (g := gb369) (o := .cells #[.int .i64 a0_0, .int .i64 a0_1, .int .i64 a0_2, .int .i64 a0_3, .int .i64 a0_4, .int .i64 a0_5, .int .i64 a0_6, .int .i64 a0_7, .int .i64 a0_8, .int .i64 a0_9] 29 (0, 0)) (bk_ BK369)) : gb370 ≠ gb369)); replace BK369 := bkb_ BK369 hb; clear hb hbox hg; have hnb69 := NB369_370.out; have hnc69 := NB370_369.out; have hcz70 := blk_cell BK369.out; have hfz70 := blk_frozen BK369.out; have hcz71 := blk_cell BK370.out; have hfz71 := blk_frozen BK370.out) | ((with_reducible refine gate_callee (f := 114) rfl ?_); refine goesC_ (some 14) Try.func114 #[.agg #[.int .i64 a0_1, .int .i64 a0_2], .agg #[.int .i64 a1_1, .int .i64 a1_2]] ?_; (with_reducible refine (laws_eqRole.calls a0_1 a0_2 a1_1 a1_2 true _ A4.out).mono ?_); rintro e w72 ⟨rfl, hb⟩; refine ⟨_, rfl, ?_⟩; replace BK369 := bkb_ BK369 hb; replace BK370 := bkb_ BK370 hb; replace HB := hbs_ hb; clear hb; have hcz73 := blk_cell BK369.out; have hfz73 := blk_frozen BK369.out; have hcz74 := blk_cell BK370.out; have hfz74 := blk_frozen BK370.out) | ((with_reducible refine gate_callee (f := 114) rfl ?_); refine goesC_ (some 25) Try.func114 #[.agg #[.int .i64 a0_4, .int .i64 a0_5], .agg #[.int .i64 a1_4, .int .i64 a1_5]] ?_; (with_reducible refine (laws_eqRole.calls a0_4 a0_5 a1_4 a1_5 false _ A7.out).mono ?_); rintro e w75 ⟨rfl, hb⟩; refine ⟨_, rfl, ?_⟩; replace BK369 := bkb_ BK369 hb; replace BK370 := bkb_ BK370 hb; replace HB := hbs_ hb; clear hb))
          go_ret
          exact ⟨eq_, bl_⟩
      · rw [if_neg c6] at H
        have c6b0 : (a0_3 == a1_3) = false := beq_eq_false_iff_ne.mpr c6
        have c6b1 : (a0_3 != a1_3) = true := bne_iff_ne.mpr c6
        obtain rfl := Option.some.inj H
        go_enter Try.func87, Try.ntmps87
        go_wp2_with (first | ((with_reducible refine gate_dst (N := 2) rfl ?_); refine box_event ?hg (N := 2) ?hd (cs := #[.int .i64 a0_0, .int .i64 a0_1, .int .i64 a0_2, .int .i64 a0_3, .int .i64 a0_4, .int .i64 a0_5, .int .i64 a0_6, .int .i64 a0_7, .int .i64 a0_8, .int .i64 a0_9]) (t := 29) ?hr ?_; (case hd => rfl); (case hg => rfl); (case hr => first | (go_simp; done) | (go_simp; rfl)); intro gb369 hg w76 hbox hb; have BK369 := Aside0.mk (hbox); have GW369 := gs_ hg; have GE369 := gs_ hg; replace HB := hbs_ hb; clear hb hbox hg) | ((with_reducible refine gate_dst (N := 3) rfl ?_); refine box_event ?hg (N := 3) ?hd (cs := #[.int .i64 a1_0, .int .i64 a1_1, .int .i64 a1_2, .int .i64 a1_3, .int .i64 a1_4, .int .i64 a1_5, .int .i64 a1_6, .int .i64 a1_7, .int .i64 a1_8, .int .i64 a1_9]) (t := 29) ?hr ?_; (case hd => rfl); (case hg => rfl); (case hr => first | (go_simp; done) | (go_simp; rfl)); intro gb370 hg w77 hbox hb; have BK370 := Aside0.mk (hbox); have GW370 := gs_ hg; have GE370 := gs_ hg; replace HB := hbs_ hb; have NB369_370 := Aside0.mk ((by rw [hg]; exact Nat.ne_of_lt (blk_lt (g := gb369) (o := .cells #[.int .i64 a0_0, .int .i64 a0_1, .int .i64 a0_2, .int .i64 a0_3, .int .i64 a0_4, .int .i64 a0_5, .int .i64 a0_6, .int .i64 a0_7, .int .i64 a0_8, .int .i64 a0_9] 29 (0, 0)) (bk_ BK369)) : gb369 ≠ gb370)); have NB370_369 := Aside0.mk ((by rw [hg]; exact Nat.ne_of_gt (blk_lt (g := gb369) (o := .cells #[.int .i64 a0_0, .int .i64 a0_1, .int .i64 a0_2, .int .i64 a0_3, .int .i64 a0_4, .int .i64 a0_5, .int .i64 a0_6, .int .i64 a0_7, .int .i64 a0_8, .int .i64 a0_9] 29 (0, 0)) (bk_ BK369)) : gb370 ≠ gb369)); replace BK369 := bkb_ BK369 hb; clear hb hbox hg; have hnb78 := NB369_370.out; have hnc78 := NB370_369.out; have hcz79 := blk_cell BK369.out; have hfz79 := blk_frozen BK369.out; have hcz80 := blk_cell BK370.out; have hfz80 := blk_frozen BK370.out) | ((with_reducible refine gate_callee (f := 114) rfl ?_); refine goesC_ (some 14) Try.func114 #[.agg #[.int .i64 a0_1, .int .i64 a0_2], .agg #[.int .i64 a1_1, .int .i64 a1_2]] ?_; (with_reducible refine (laws_eqRole.calls a0_1 a0_2 a1_1 a1_2 true _ A4.out).mono ?_); rintro e w81 ⟨rfl, hb⟩; refine ⟨_, rfl, ?_⟩; replace BK369 := bkb_ BK369 hb; replace BK370 := bkb_ BK370 hb; replace HB := hbs_ hb; clear hb; have hcz82 := blk_cell BK369.out; have hfz82 := blk_frozen BK369.out; have hcz83 := blk_cell BK370.out; have hfz83 := blk_frozen BK370.out))
        go_ret
        exact ⟨eq_, bl_⟩
    · replace c5 := Bool.eq_false_iff.mpr c5
      subst c5
      replace H := ite_f_ H
      obtain rfl := Option.some.inj H
      go_enter Try.func87, Try.ntmps87
      go_wp2_with (first | ((with_reducible refine gate_dst (N := 2) rfl ?_); refine box_event ?hg (N := 2) ?hd (cs := #[.int .i64 a0_0, .int .i64 a0_1, .int .i64 a0_2, .int .i64 a0_3, .int .i64 a0_4, .int .i64 a0_5, .int .i64 a0_6, .int .i64 a0_7, .int .i64 a0_8, .int .i64 a0_9]) (t := 29) ?hr ?_; (case hd => rfl); (case hg => rfl); (case hr => first | (go_simp; done) | (go_simp; rfl)); intro gb369 hg w84 hbox hb; have BK369 := Aside0.mk (hbox); have GW369 := gs_ hg; have GE369 := gs_ hg; replace HB := hbs_ hb; clear hb hbox hg) | ((with_reducible refine gate_dst (N := 3) rfl ?_); refine box_event ?hg (N := 3) ?hd (cs := #[.int .i64 a1_0, .int .i64 a1_1, .int .i64 a1_2, .int .i64 a1_3, .int .i64 a1_4, .int .i64 a1_5, .int .i64 a1_6, .int .i64 a1_7, .int .i64 a1_8, .int .i64 a1_9]) (t := 29) ?hr ?_; (case hd => rfl); (case hg => rfl); (case hr => first | (go_simp; done) | (go_simp; rfl)); intro gb370 hg w85 hbox hb; have BK370 := Aside0.mk (hbox); have GW370 := gs_ hg; have GE370 := gs_ hg; replace HB := hbs_ hb; have NB369_370 := Aside0.mk ((by rw [hg]; exact Nat.ne_of_lt (blk_lt (g := gb369) (o := .cells #[.int .i64 a0_0, .int .i64 a0_1, .int .i64 a0_2, .int .i64 a0_3, .int .i64 a0_4, .int .i64 a0_5, .int .i64 a0_6, .int .i64 a0_7, .int .i64 a0_8, .int .i64 a0_9] 29 (0, 0)) (bk_ BK369)) : gb369 ≠ gb370)); have NB370_369 := Aside0.mk ((by rw [hg]; exact Nat.ne_of_gt (blk_lt (g := gb369) (o := .cells #[.int .i64 a0_0, .int .i64 a0_1, .int .i64 a0_2, .int .i64 a0_3, .int .i64 a0_4, .int .i64 a0_5, .int .i64 a0_6, .int .i64 a0_7, .int .i64 a0_8, .int .i64 a0_9] 29 (0, 0)) (bk_ BK369)) : gb370 ≠ gb369)); replace BK369 := bkb_ BK369 hb; clear hb hbox hg; have hnb86 := NB369_370.out; have hnc86 := NB370_369.out; have hcz87 := blk_cell BK369.out; have hfz87 := blk_frozen BK369.out; have hcz88 := blk_cell BK370.out; have hfz88 := blk_frozen BK370.out) | ((with_reducible refine gate_callee (f := 114) rfl ?_); refine goesC_ (some 14) Try.func114 #[.agg #[.int .i64 a0_1, .int .i64 a0_2], .agg #[.int .i64 a1_1, .int .i64 a1_2]] ?_; (with_reducible refine (laws_eqRole.calls a0_1 a0_2 a1_1 a1_2 false _ A4.out).mono ?_); rintro e w89 ⟨rfl, hb⟩; refine ⟨_, rfl, ?_⟩; replace BK369 := bkb_ BK369 hb; replace BK370 := bkb_ BK370 hb; replace HB := hbs_ hb; clear hb))
      go_ret
      exact ⟨eq_, bl_⟩
  · rw [if_neg c3] at H
    have c3b0 : (a0_0 == a1_0) = false := beq_eq_false_iff_ne.mpr c3
    have c3b1 : (a0_0 != a1_0) = true := bne_iff_ne.mpr c3
    obtain rfl := Option.some.inj H
    go_enter Try.func87, Try.ntmps87
    go_wp2_with (first | ((with_reducible refine gate_dst (N := 2) rfl ?_); refine box_event ?hg (N := 2) ?hd (cs := #[.int .i64 a0_0, .int .i64 a0_1, .int .i64 a0_2, .int .i64 a0_3, .int .i64 a0_4, .int .i64 a0_5, .int .i64 a0_6, .int .i64 a0_7, .int .i64 a0_8, .int .i64 a0_9]) (t := 29) ?hr ?_; (case hd => rfl); (case hg => rfl); (case hr => first | (go_simp; done) | (go_simp; rfl)); intro gb369 hg w90 hbox hb; have BK369 := Aside0.mk (hbox); have GW369 := gs_ hg; have GE369 := gs_ hg; replace HB := hbs_ hb; clear hb hbox hg) | ((with_reducible refine gate_dst (N := 3) rfl ?_); refine box_event ?hg (N := 3) ?hd (cs := #[.int .i64 a1_0, .int .i64 a1_1, .int .i64 a1_2, .int .i64 a1_3, .int .i64 a1_4, .int .i64 a1_5, .int .i64 a1_6, .int .i64 a1_7, .int .i64 a1_8, .int .i64 a1_9]) (t := 29) ?hr ?_; (case hd => rfl); (case hg => rfl); (case hr => first | (go_simp; done) | (go_simp; rfl)); intro gb370 hg w91 hbox hb; have BK370 := Aside0.mk (hbox); have GW370 := gs_ hg; have GE370 := gs_ hg; replace HB := hbs_ hb; have NB369_370 := Aside0.mk ((by rw [hg]; exact Nat.ne_of_lt (blk_lt (g := gb369) (o := .cells #[.int .i64 a0_0, .int .i64 a0_1, .int .i64 a0_2, .int .i64 a0_3, .int .i64 a0_4, .int .i64 a0_5, .int .i64 a0_6, .int .i64 a0_7, .int .i64 a0_8, .int .i64 a0_9] 29 (0, 0)) (bk_ BK369)) : gb369 ≠ gb370)); have NB370_369 := Aside0.mk ((by rw [hg]; exact Nat.ne_of_gt (blk_lt (g := gb369) (o := .cells #[.int .i64 a0_0, .int .i64 a0_1, .int .i64 a0_2, .int .i64 a0_3, .int .i64 a0_4, .int .i64 a0_5, .int .i64 a0_6, .int .i64 a0_7, .int .i64 a0_8, .int .i64 a0_9] 29 (0, 0)) (bk_ BK369)) : gb370 ≠ gb369)); replace BK369 := bkb_ BK369 hb; clear hb hbox hg; have hnb92 := NB369_370.out; have hnc92 := NB370_369.out; have hcz93 := blk_cell BK369.out; have hfz93 := blk_frozen BK369.out; have hcz94 := blk_cell BK370.out; have hfz94 := blk_frozen BK370.out))
    go_ret
    exact ⟨eq_, bl_⟩

/-! ### laws_eqCredS: function 31 -/
def laws_eqCredS.l0 : Nat → List (S29) → List (S29) → Int → Option (Bool)
  | 0, _, _, _ => none
  | k + 1, x0, x1, x5 => if x5 < (x0.length : Int) then (if 0 ≤ x5 then (if x5 < (x1.length : Int) then ((laws_eqCred.f ((rd_T29 x0 x5).f0) ((rd_T29 x0 x5).f1.f0) ((rd_T29 x0 x5).f1.f1) ((rd_T29 x0 x5).f2) ((rd_T29 x0 x5).f3.f0) ((rd_T29 x0 x5).f3.f1) ((rd_T29 x0 x5).f4.f0) ((rd_T29 x0 x5).f4.f1) ((rd_T29 x0 x5).f5) ((rd_T29 x0 x5).f6) ((rd_T29 x1 x5).f0) ((rd_T29 x1 x5).f1.f0) ((rd_T29 x1 x5).f1.f1) ((rd_T29 x1 x5).f2) ((rd_T29 x1 x5).f3.f0) ((rd_T29 x1 x5).f3.f1) ((rd_T29 x1 x5).f4.f0) ((rd_T29 x1 x5).f4.f1) ((rd_T29 x1 x5).f5) ((rd_T29 x1 x5).f6)).bind fun t376 => (if t376 = true then (laws_eqCredS.l0 k x0 x1 (wrap64 (x5 + 1))) else (some false))) else (none)) else (none)) else (some true)
def laws_eqCredS.f (k : Nat) (l0 : List (S29)) (l1 : List (S29)) : Option (Bool) := if (l0.length : Int) = (l1.length : Int) then (laws_eqCredS.l0 k l0 l1 0) else (some false)
theorem laws_eqCredS.mono_l : ∀ k, (∀ y0 y1 y2, LeO (laws_eqCredS.l0 k y0 y1 y2) (laws_eqCredS.l0 (k + 1) y0 y1 y2))
  | 0 => fun _ _ _ r h => by simp [laws_eqCredS.l0] at h
  | k + 1 => by
    have ih0 := laws_eqCredS.mono_l k
    · intro y0 y1 y2
      unfold laws_eqCredS.l0
      repeat' first
      | (with_reducible exact ih0 _ _ _)
      | (with_reducible exact LeO.refl _)
      | (with_reducible exact LeO.none _)
      | (with_reducible refine LeO.ite ?_ ?_)
      | (with_reducible refine LeO.bind ?_ (fun _ => ?_))
      | exact ih0 _ _ _
      | exact LeO.none _
      | refine LeO.ite ?_ ?_
      | refine LeO.bind ?_ (fun _ => ?_)
theorem laws_eqCredS.mono : ∀ a0 a1 k, LeO (laws_eqCredS.f k a0 a1) (laws_eqCredS.f (k + 1) a0 a1) := by
  intro a0 a1 k
  have ih0 := laws_eqCredS.mono_l k
  unfold laws_eqCredS.f
  repeat' first
      | (with_reducible exact ih0 _ _ _)
      | (with_reducible exact LeO.refl _)
      | (with_reducible exact LeO.none _)
      | (with_reducible refine LeO.ite ?_ ?_)
      | (with_reducible refine LeO.bind ?_ (fun _ => ?_))
      | exact ih0 _ _ _
      | exact LeO.none _
      | refine LeO.ite ?_ ?_
      | refine LeO.bind ?_ (fun _ => ?_)
def laws_eqCredS.T6 : Bool × List (List Nat × List Nat) := (true, [([], []), ([], []), ([0, 1], [0, 1]), ([2], [2]), ([], []), ([], []), ([4, 5], [4, 5]), ([6], [6]), ([3, 7], [3, 7]), ([8], [8])])
def laws_eqCredS.B6 : List Nat := [0, 0, 3, 7, 0, 0, 48, 112, 255, 511]
theorem laws_eqCredS.tab6 : rtab .any (opsOf Try.f31 6) = laws_eqCredS.T6 := by kernel_rfl
theorem laws_eqCredS.bits6 : waitsOk laws_eqCredS.T6.2 laws_eqCredS.B6 = true := by kernel_rfl
set_option maxHeartbeats 8000000 in
set_option maxRecDepth 100000 in
theorem laws_eqCredS.calls (k : Nat) (A0 : Option Addr) (c0 : Nat) (l0 : List (S29)) (A1 : Option Addr) (c1 : Nat) (l1 : List (S29)) (r : Bool) (w : World) (hr0 : Kd.C k29 w A0 l0.length l0) (hc0 : l0.length ≤ c0) (hr1 : Kd.C k29 w A1 l1.length l1) (hc1 : l1.length ≤ c1) (h : laws_eqCredS.f k l0 l1 = some r) :
    Calls Try.prog 31 #[.slice A0 l0.length c0, .slice A1 l1.length c1] w fun e w' => e = .returned (.bool r) ∧ Below w.heap.size w w' := by
  have hu29 := Try.underlying29
  have HR0 := Aside0.mk hr0
  have HC0 := Aside0.mk hc0
  clear hr0 hc0
  have HR1 := Aside0.mk hr1
  have HC1 := Aside0.mk hc1
  clear hr1 hc1
  have HB := Aside0.mk (Below.refl w.heap.size w)
  have H : (if (l0.length : Int) = (l1.length : Int) then (laws_eqCredS.l0 k l0 l1 0) else (some false)) = some r := h
  clear h
  by_cases c3 : (l0.length : Int) = (l1.length : Int)
  · rw [if_pos c3] at H
    have c3b0 : ((l0.length : Int) == (l1.length : Int)) = true := beq_iff_eq.mpr c3
    have c3b1 : ((l0.length : Int) != (l1.length : Int)) = false := bne_eq_false_iff_eq.mpr c3
    have c3b2 : (l0.length == l1.length) = true := by first | simpa using c3 | (simp at c3 ⊢; omega)
    clear c3
    have H' := Aside0.mk H
    clear H
    go_enter Try.func31, Try.ntmps31
    go_wp2
    go_loopg [5] k (fun kq v5 w' => ∃ (x5_1 : Int), v5 = .int .i64 x5_1 ∧ Aside0 (laws_eqCredS.l0 kq l0 l1 x5_1 = some r) ∧ Aside0 (kq ≤ k) ∧ Aside0 (Below w.heap.size w w'))
    case atStart => exact ⟨(0), (by first | rfl | (simp; done) | (simp [*]; done)), H', ⟨Nat.le_refl _⟩, ⟨bl_⟩⟩
    case round =>
      clear H'
      try clear c1
      try clear p2
      try clear c3
      try clear c3b0
      try clear c3b1
      try clear c3b2
      obtain ⟨x5_1, rfl, HA, HK1, HB⟩ := hrel
      cases gk with
      | zero => exact absurd HA.out (by simp [laws_eqCredS.l0])
      | succ k1 =>
        have H := HA.out
        clear HA
        simp only [laws_eqCredS.l0] at H
        by_cases c4 : x5_1 < (l0.length : Int)
        · rw [if_pos c4] at H
          have c4b0 : decide (x5_1 < (l0.length : Int)) = true := decide_eq_true c4
          clear c4
          by_cases c5 : 0 ≤ x5_1
          · rw [if_pos c5] at H
            have c5b0 : decide (0 ≤ x5_1) = true := decide_eq_true c5
            clear c5
            by_cases c6 : x5_1 < (l1.length : Int)
            · rw [if_pos c6] at H
              have c6b0 : decide (x5_1 < (l1.length : Int)) = true := decide_eq_true c6
              clear c6
              obtain ⟨t376, A7, H⟩ := bindE_ H
              by_cases c8 : t376 = true
              · subst c8
                replace H := ite_t_ H
                have H' := Aside0.mk H
                clear H
                try go_wp2
                replace HB := Aside0.mk (below_drew1 HB.out)
                have p374 : 0 ≤ (x5_1 : Int) := of_decide_eq_true (by first | (with_reducible assumption) | assumption)
                have q374 : x5_1 < (l0.length : Int) := of_decide_eq_true (by first | (with_reducible assumption) | assumption)
                obtain ⟨ad374, e374, hx374_0, hx374_1, hx374_2, hx374_3, hx374_4, hx374_5, hx374_6, hx374_7, hx374_8, hx374_9⟩ := at_T29 HR0.out x5_1 p374 q374
                have hw374_9 := hx374_9
                have hw374_8 := hx374_8
                have hw374_7 := hx374_7
                have hw374_6 := hx374_6
                have hw374_5 := hx374_5
                have hw374_4 := hx374_4
                have hw374_3 := hx374_3
                have hw374_2 := hx374_2
                have hw374_1 := hx374_1
                have hw374_0 := hx374_0
                cases e374
                replace hx374_0 := cb_ HB hx374_0
                replace hx374_1 := cb_ HB hx374_1
                replace hx374_2 := cb_ HB hx374_2
                replace hx374_3 := cb_ HB hx374_3
                replace hx374_4 := cb_ HB hx374_4
                replace hx374_5 := cb_ HB hx374_5
                replace hx374_6 := cb_ HB hx374_6
                replace hx374_7 := cb_ HB hx374_7
                replace hx374_8 := cb_ HB hx374_8
                replace hx374_9 := cb_ HB hx374_9
                replace p374 := eq_true p374
                replace q374 := eq_true q374
                have p375 : 0 ≤ (x5_1 : Int) := of_decide_eq_true (by first | (with_reducible assumption) | assumption)
                have q375 : x5_1 < (l1.length : Int) := of_decide_eq_true (by first | (with_reducible assumption) | assumption)
                obtain ⟨ad375, e375, hx375_0, hx375_1, hx375_2, hx375_3, hx375_4, hx375_5, hx375_6, hx375_7, hx375_8, hx375_9⟩ := at_T29 HR1.out x5_1 p375 q375
                have hw375_9 := hx375_9
                have hw375_8 := hx375_8
                have hw375_7 := hx375_7
                have hw375_6 := hx375_6
                have hw375_5 := hx375_5
                have hw375_4 := hx375_4
                have hw375_3 := hx375_3
                have hw375_2 := hx375_2
                have hw375_1 := hx375_1
                have hw375_0 := hx375_0
                cases e375
                replace hx375_0 := cb_ HB hx375_0
                replace hx375_1 := cb_ HB hx375_1
                replace hx375_2 := cb_ HB hx375_2
                replace hx375_3 := cb_ HB hx375_3
                replace hx375_4 := cb_ HB hx375_4
                replace hx375_5 := cb_ HB hx375_5
                replace hx375_6 := cb_ HB hx375_6
                replace hx375_7 := cb_ HB hx375_7
                replace hx375_8 := cb_ HB hx375_8
                replace hx375_9 := cb_ HB hx375_9
                replace p375 := eq_true p375
                replace q375 := eq_true q375
                refine start_ (n := 10) (S := fun w' => w'.cell? (ad374.add ((x5_1).toNat * 10)) = some (.int .i64 ((rd_T29 l0 x5_1).f0)) ∧ w'.cell? ⟨(ad374.add ((x5_1).toNat * 10)).block, (ad374.add ((x5_1).toNat * 10)).off + 1, none⟩ = some (.int .i64 ((rd_T29 l0 x5_1).f1.f0)) ∧ w'.cell? ⟨(ad374.add ((x5_1).toNat * 10)).block, (ad374.add ((x5_1).toNat * 10)).off + 2, none⟩ = some (.int .i64 ((rd_T29 l0 x5_1).f1.f1)) ∧ w'.cell? ⟨(ad374.add ((x5_1).toNat * 10)).block, (ad374.add ((x5_1).toNat * 10)).off + 3, none⟩ = some (.int .i64 ((rd_T29 l0 x5_1).f2)) ∧ w'.cell? ⟨(ad374.add ((x5_1).toNat * 10)).block, (ad374.add ((x5_1).toNat * 10)).off + 4, none⟩ = some (.int .i64 ((rd_T29 l0 x5_1).f3.f0)) ∧ w'.cell? ⟨(ad374.add ((x5_1).toNat * 10)).block, (ad374.add ((x5_1).toNat * 10)).off + 5, none⟩ = some (.int .i64 ((rd_T29 l0 x5_1).f3.f1)) ∧ w'.cell? ⟨(ad374.add ((x5_1).toNat * 10)).block, (ad374.add ((x5_1).toNat * 10)).off + 6, none⟩ = some (.int .i64 ((rd_T29 l0 x5_1).f4.f0)) ∧ w'.cell? ⟨(ad374.add ((x5_1).toNat * 10)).block, (ad374.add ((x5_1).toNat * 10)).off + 7, none⟩ = some (.int .i64 ((rd_T29 l0 x5_1).f4.f1)) ∧ w'.cell? ⟨(ad374.add ((x5_1).toNat * 10)).block, (ad374.add ((x5_1).toNat * 10)).off + 8, none⟩ = some (.int .i64 ((rd_T29 l0 x5_1).f5)) ∧ w'.cell? ⟨(ad374.add ((x5_1).toNat * 10)).block, (ad374.add ((x5_1).toNat * 10)).off + 9, none⟩ = some (.int .i64 ((rd_T29 l0 x5_1).f6)) ∧ w'.cell? (ad375.add ((x5_1).toNat * 10)) = some (.int .i64 ((rd_T29 l1 x5_1).f0)) ∧ w'.cell? ⟨(ad375.add ((x5_1).toNat * 10)).block, (ad375.add ((x5_1).toNat * 10)).off + 1, none⟩ = some (.int .i64 ((rd_T29 l1 x5_1).f1.f0)) ∧ w'.cell? ⟨(ad375.add ((x5_1).toNat * 10)).block, (ad375.add ((x5_1).toNat * 10)).off + 2, none⟩ = some (.int .i64 ((rd_T29 l1 x5_1).f1.f1)) ∧ w'.cell? ⟨(ad375.add ((x5_1).toNat * 10)).block, (ad375.add ((x5_1).toNat * 10)).off + 3, none⟩ = some (.int .i64 ((rd_T29 l1 x5_1).f2)) ∧ w'.cell? ⟨(ad375.add ((x5_1).toNat * 10)).block, (ad375.add ((x5_1).toNat * 10)).off + 4, none⟩ = some (.int .i64 ((rd_T29 l1 x5_1).f3.f0)) ∧ w'.cell? ⟨(ad375.add ((x5_1).toNat * 10)).block, (ad375.add ((x5_1).toNat * 10)).off + 5, none⟩ = some (.int .i64 ((rd_T29 l1 x5_1).f3.f1)) ∧ w'.cell? ⟨(ad375.add ((x5_1).toNat * 10)).block, (ad375.add ((x5_1).toNat * 10)).off + 6, none⟩ = some (.int .i64 ((rd_T29 l1 x5_1).f4.f0)) ∧ w'.cell? ⟨(ad375.add ((x5_1).toNat * 10)).block, (ad375.add ((x5_1).toNat * 10)).off + 7, none⟩ = some (.int .i64 ((rd_T29 l1 x5_1).f4.f1)) ∧ w'.cell? ⟨(ad375.add ((x5_1).toNat * 10)).block, (ad375.add ((x5_1).toNat * 10)).off + 8, none⟩ = some (.int .i64 ((rd_T29 l1 x5_1).f5)) ∧ w'.cell? ⟨(ad375.add ((x5_1).toNat * 10)).block, (ad375.add ((x5_1).toNat * 10)).off + 9, none⟩ = some (.int .i64 ((rd_T29 l1 x5_1).f6))) (ds := []) #[false, false, false, false, false, false, false, false, false, false] (by kernel_rfl) rfl rfl ⟨((HB.out.cell (World.block_lt_of_cell? w _ hw374_0)).trans hw374_0), ((HB.out.cell (World.block_lt_of_cell? w _ hw374_1)).trans hw374_1), ((HB.out.cell (World.block_lt_of_cell? w _ hw374_2)).trans hw374_2), ((HB.out.cell (World.block_lt_of_cell? w _ hw374_3)).trans hw374_3), ((HB.out.cell (World.block_lt_of_cell? w _ hw374_4)).trans hw374_4), ((HB.out.cell (World.block_lt_of_cell? w _ hw374_5)).trans hw374_5), ((HB.out.cell (World.block_lt_of_cell? w _ hw374_6)).trans hw374_6), ((HB.out.cell (World.block_lt_of_cell? w _ hw374_7)).trans hw374_7), ((HB.out.cell (World.block_lt_of_cell? w _ hw374_8)).trans hw374_8), ((HB.out.cell (World.block_lt_of_cell? w _ hw374_9)).trans hw374_9), ((HB.out.cell (World.block_lt_of_cell? w _ hw375_0)).trans hw375_0), ((HB.out.cell (World.block_lt_of_cell? w _ hw375_1)).trans hw375_1), ((HB.out.cell (World.block_lt_of_cell? w _ hw375_2)).trans hw375_2), ((HB.out.cell (World.block_lt_of_cell? w _ hw375_3)).trans hw375_3), ((HB.out.cell (World.block_lt_of_cell? w _ hw375_4)).trans hw375_4), ((HB.out.cell (World.block_lt_of_cell? w _ hw375_5)).trans hw375_5), ((HB.out.cell (World.block_lt_of_cell? w _ hw375_6)).trans hw375_6), ((HB.out.cell (World.block_lt_of_cell? w _ hw375_7)).trans hw375_7), ((HB.out.cell (World.block_lt_of_cell? w _ hw375_8)).trans hw375_8), ((HB.out.cell (World.block_lt_of_cell? w _ hw375_9)).trans hw375_9)⟩ (fun hHeld => ?_); refine with_tabW laws_eqCredS.tab6 laws_eqCredS.bits6 (fun HT_ HW_ => ?_)
                generalize wr.drew = w9 at HB hx374_0 hx374_1 hx374_2 hx374_3 hx374_4 hx374_5 hx374_6 hx374_7 hx374_8 hx374_9 hx375_0 hx375_1 hx375_2 hx375_3 hx375_4 hx375_5 hx375_6 hx375_7 hx375_8 hx375_9 hHeld ⊢
                refine pureZ_ (i := 0) (some 17) #[true, false, false, false, false, false, false, false, false, false] (any_of HT_.out (by kernel_rfl)) ?_
                refine pureZ_ (i := 1) (some 18) #[true, true, false, false, false, false, false, false, false, false] (any_of HT_.out (by kernel_rfl)) ?_
                refine pureZ_ (i := 2) (some 19) #[true, true, true, false, false, false, false, false, false, false] (any_of HT_.out (by kernel_rfl)) ?_
                refine pureZ_ (i := 4) (some 21) #[true, true, true, false, true, false, false, false, false, false] (any_of HT_.out (by kernel_rfl)) ?_
                refine pureZ_ (i := 5) (some 22) #[true, true, true, false, true, true, false, false, false, false] (any_of HT_.out (by kernel_rfl)) ?_
                refine pureZ_ (i := 6) (some 23) #[true, true, true, false, true, true, true, false, false, false] (any_of HT_.out (by kernel_rfl)) ?_
                refine takeZ_ (i := 3) (some 20) #[true, true, true, true, true, true, true, false, false, false] (take_ofW HT_.out HW_.out (by kernel_rfl)) hHeld ?_
                refine takeZ_ (i := 7) (some 24) #[true, true, true, true, true, true, true, true, false, false] (take_ofW HT_.out HW_.out (by kernel_rfl)) hHeld ?_
                refine one_ (i := 8) (N := some 25) #[true, true, true, true, true, true, true, true, true, false] rfl rfl (one_of HT_.out (by kernel_rfl)) (by decide) (fun K hK => ?_)
                refine goes_ Try.func87 (by kernel_rfl) rfl #[.agg #[.int .i64 ((rd_T29 l0 x5_1).f0), .int .i64 ((rd_T29 l0 x5_1).f1.f0), .int .i64 ((rd_T29 l0 x5_1).f1.f1), .int .i64 ((rd_T29 l0 x5_1).f2), .int .i64 ((rd_T29 l0 x5_1).f3.f0), .int .i64 ((rd_T29 l0 x5_1).f3.f1), .int .i64 ((rd_T29 l0 x5_1).f4.f0), .int .i64 ((rd_T29 l0 x5_1).f4.f1), .int .i64 ((rd_T29 l0 x5_1).f5), .int .i64 ((rd_T29 l0 x5_1).f6)], .agg #[.int .i64 ((rd_T29 l1 x5_1).f0), .int .i64 ((rd_T29 l1 x5_1).f1.f0), .int .i64 ((rd_T29 l1 x5_1).f1.f1), .int .i64 ((rd_T29 l1 x5_1).f2), .int .i64 ((rd_T29 l1 x5_1).f3.f0), .int .i64 ((rd_T29 l1 x5_1).f3.f1), .int .i64 ((rd_T29 l1 x5_1).f4.f0), .int .i64 ((rd_T29 l1 x5_1).f4.f1), .int .i64 ((rd_T29 l1 x5_1).f5), .int .i64 ((rd_T29 l1 x5_1).f6)]] (by rfl) rfl rfl (by (try simp only [List.map_toArray, List.map_cons, List.map_nil]); first | done | rfl | (simp only [List.length_drop, List.length_take]; rfl)) ?_
                with_reducible refine (laws_eqCred.calls ((rd_T29 l0 x5_1).f0) ((rd_T29 l0 x5_1).f1.f0) ((rd_T29 l0 x5_1).f1.f1) ((rd_T29 l0 x5_1).f2) ((rd_T29 l0 x5_1).f3.f0) ((rd_T29 l0 x5_1).f3.f1) ((rd_T29 l0 x5_1).f4.f0) ((rd_T29 l0 x5_1).f4.f1) ((rd_T29 l0 x5_1).f5) ((rd_T29 l0 x5_1).f6) ((rd_T29 l1 x5_1).f0) ((rd_T29 l1 x5_1).f1.f0) ((rd_T29 l1 x5_1).f1.f1) ((rd_T29 l1 x5_1).f2) ((rd_T29 l1 x5_1).f3.f0) ((rd_T29 l1 x5_1).f3.f1) ((rd_T29 l1 x5_1).f4.f0) ((rd_T29 l1 x5_1).f4.f1) ((rd_T29 l1 x5_1).f5) ((rd_T29 l1 x5_1).f6) true _ A7.out).mono ?_
                rintro e w10 ⟨rfl, hb⟩
                refine ⟨_, rfl, ?_⟩
                replace HB := hbs_ hb
                (try clear hb)
                (try clear hb2)
                (try clear hk)
                (try clear hi)
                refine hK.out _ _ ⟨((HB.out.cell (World.block_lt_of_cell? w _ hw374_0)).trans hw374_0), ((HB.out.cell (World.block_lt_of_cell? w _ hw374_1)).trans hw374_1), ((HB.out.cell (World.block_lt_of_cell? w _ hw374_2)).trans hw374_2), ((HB.out.cell (World.block_lt_of_cell? w _ hw374_3)).trans hw374_3), ((HB.out.cell (World.block_lt_of_cell? w _ hw374_4)).trans hw374_4), ((HB.out.cell (World.block_lt_of_cell? w _ hw374_5)).trans hw374_5), ((HB.out.cell (World.block_lt_of_cell? w _ hw374_6)).trans hw374_6), ((HB.out.cell (World.block_lt_of_cell? w _ hw374_7)).trans hw374_7), ((HB.out.cell (World.block_lt_of_cell? w _ hw374_8)).trans hw374_8), ((HB.out.cell (World.block_lt_of_cell? w _ hw374_9)).trans hw374_9), ((HB.out.cell (World.block_lt_of_cell? w _ hw375_0)).trans hw375_0), ((HB.out.cell (World.block_lt_of_cell? w _ hw375_1)).trans hw375_1), ((HB.out.cell (World.block_lt_of_cell? w _ hw375_2)).trans hw375_2), ((HB.out.cell (World.block_lt_of_cell? w _ hw375_3)).trans hw375_3), ((HB.out.cell (World.block_lt_of_cell? w _ hw375_4)).trans hw375_4), ((HB.out.cell (World.block_lt_of_cell? w _ hw375_5)).trans hw375_5), ((HB.out.cell (World.block_lt_of_cell? w _ hw375_6)).trans hw375_6), ((HB.out.cell (World.block_lt_of_cell? w _ hw375_7)).trans hw375_7), ((HB.out.cell (World.block_lt_of_cell? w _ hw375_8)).trans hw375_8), ((HB.out.cell (World.block_lt_of_cell? w _ hw375_9)).trans hw375_9)⟩ (fun hHeld => ?_)
                clear hK K
                refine norm_ (a' := ?_) ?_ ?_
                rotate_left
                · show Act.put _ (some 25) _ = _
                  simp only [Act.put, List.setIfInBounds_toArray, List.set_cons_zero, List.set_cons_succ, i64_w, i32_w]
                  rfl
                refine pureZ_ (i := 9) (some 26) #[true, true, true, true, true, true, true, true, true, true] (any_of HT_.out (by kernel_rfl)) ?_
                refine done_ (done_of HT_.out (by kernel_rfl)) ?_
                try go_wp2
                go_roundg k1
                case measure => have := HK1.out; omega
                case rel => exact ⟨(wrap64 (x5_1 + 1)), (by first | rfl | (simp; done) | (simp [*]; done)), H', ⟨by have := HK1.out; omega⟩, ⟨bl_⟩⟩
              · replace c8 := Bool.eq_false_iff.mpr c8
                subst c8
                replace H := ite_f_ H
                obtain rfl := Option.some.inj H
                try go_wp2
                replace HB := Aside0.mk (below_drew1 HB.out)
                have p374 : 0 ≤ (x5_1 : Int) := of_decide_eq_true (by first | (with_reducible assumption) | assumption)
                have q374 : x5_1 < (l0.length : Int) := of_decide_eq_true (by first | (with_reducible assumption) | assumption)
                obtain ⟨ad374, e374, hx374_0, hx374_1, hx374_2, hx374_3, hx374_4, hx374_5, hx374_6, hx374_7, hx374_8, hx374_9⟩ := at_T29 HR0.out x5_1 p374 q374
                have hw374_9 := hx374_9
                have hw374_8 := hx374_8
                have hw374_7 := hx374_7
                have hw374_6 := hx374_6
                have hw374_5 := hx374_5
                have hw374_4 := hx374_4
                have hw374_3 := hx374_3
                have hw374_2 := hx374_2
                have hw374_1 := hx374_1
                have hw374_0 := hx374_0
                cases e374
                replace hx374_0 := cb_ HB hx374_0
                replace hx374_1 := cb_ HB hx374_1
                replace hx374_2 := cb_ HB hx374_2
                replace hx374_3 := cb_ HB hx374_3
                replace hx374_4 := cb_ HB hx374_4
                replace hx374_5 := cb_ HB hx374_5
                replace hx374_6 := cb_ HB hx374_6
                replace hx374_7 := cb_ HB hx374_7
                replace hx374_8 := cb_ HB hx374_8
                replace hx374_9 := cb_ HB hx374_9
                replace p374 := eq_true p374
                replace q374 := eq_true q374
                have p375 : 0 ≤ (x5_1 : Int) := of_decide_eq_true (by first | (with_reducible assumption) | assumption)
                have q375 : x5_1 < (l1.length : Int) := of_decide_eq_true (by first | (with_reducible assumption) | assumption)
                obtain ⟨ad375, e375, hx375_0, hx375_1, hx375_2, hx375_3, hx375_4, hx375_5, hx375_6, hx375_7, hx375_8, hx375_9⟩ := at_T29 HR1.out x5_1 p375 q375
                have hw375_9 := hx375_9
                have hw375_8 := hx375_8
                have hw375_7 := hx375_7
                have hw375_6 := hx375_6
                have hw375_5 := hx375_5
                have hw375_4 := hx375_4
                have hw375_3 := hx375_3
                have hw375_2 := hx375_2
                have hw375_1 := hx375_1
                have hw375_0 := hx375_0
                cases e375
                replace hx375_0 := cb_ HB hx375_0
                replace hx375_1 := cb_ HB hx375_1
                replace hx375_2 := cb_ HB hx375_2
                replace hx375_3 := cb_ HB hx375_3
                replace hx375_4 := cb_ HB hx375_4
                replace hx375_5 := cb_ HB hx375_5
                replace hx375_6 := cb_ HB hx375_6
                replace hx375_7 := cb_ HB hx375_7
                replace hx375_8 := cb_ HB hx375_8
                replace hx375_9 := cb_ HB hx375_9
                replace p375 := eq_true p375
                replace q375 := eq_true q375
                refine start_ (n := 10) (S := fun w' => w'.cell? (ad374.add ((x5_1).toNat * 10)) = some (.int .i64 ((rd_T29 l0 x5_1).f0)) ∧ w'.cell? ⟨(ad374.add ((x5_1).toNat * 10)).block, (ad374.add ((x5_1).toNat * 10)).off + 1, none⟩ = some (.int .i64 ((rd_T29 l0 x5_1).f1.f0)) ∧ w'.cell? ⟨(ad374.add ((x5_1).toNat * 10)).block, (ad374.add ((x5_1).toNat * 10)).off + 2, none⟩ = some (.int .i64 ((rd_T29 l0 x5_1).f1.f1)) ∧ w'.cell? ⟨(ad374.add ((x5_1).toNat * 10)).block, (ad374.add ((x5_1).toNat * 10)).off + 3, none⟩ = some (.int .i64 ((rd_T29 l0 x5_1).f2)) ∧ w'.cell? ⟨(ad374.add ((x5_1).toNat * 10)).block, (ad374.add ((x5_1).toNat * 10)).off + 4, none⟩ = some (.int .i64 ((rd_T29 l0 x5_1).f3.f0)) ∧ w'.cell? ⟨(ad374.add ((x5_1).toNat * 10)).block, (ad374.add ((x5_1).toNat * 10)).off + 5, none⟩ = some (.int .i64 ((rd_T29 l0 x5_1).f3.f1)) ∧ w'.cell? ⟨(ad374.add ((x5_1).toNat * 10)).block, (ad374.add ((x5_1).toNat * 10)).off + 6, none⟩ = some (.int .i64 ((rd_T29 l0 x5_1).f4.f0)) ∧ w'.cell? ⟨(ad374.add ((x5_1).toNat * 10)).block, (ad374.add ((x5_1).toNat * 10)).off + 7, none⟩ = some (.int .i64 ((rd_T29 l0 x5_1).f4.f1)) ∧ w'.cell? ⟨(ad374.add ((x5_1).toNat * 10)).block, (ad374.add ((x5_1).toNat * 10)).off + 8, none⟩ = some (.int .i64 ((rd_T29 l0 x5_1).f5)) ∧ w'.cell? ⟨(ad374.add ((x5_1).toNat * 10)).block, (ad374.add ((x5_1).toNat * 10)).off + 9, none⟩ = some (.int .i64 ((rd_T29 l0 x5_1).f6)) ∧ w'.cell? (ad375.add ((x5_1).toNat * 10)) = some (.int .i64 ((rd_T29 l1 x5_1).f0)) ∧ w'.cell? ⟨(ad375.add ((x5_1).toNat * 10)).block, (ad375.add ((x5_1).toNat * 10)).off + 1, none⟩ = some (.int .i64 ((rd_T29 l1 x5_1).f1.f0)) ∧ w'.cell? ⟨(ad375.add ((x5_1).toNat * 10)).block, (ad375.add ((x5_1).toNat * 10)).off + 2, none⟩ = some (.int .i64 ((rd_T29 l1 x5_1).f1.f1)) ∧ w'.cell? ⟨(ad375.add ((x5_1).toNat * 10)).block, (ad375.add ((x5_1).toNat * 10)).off + 3, none⟩ = some (.int .i64 ((rd_T29 l1 x5_1).f2)) ∧ w'.cell? ⟨(ad375.add ((x5_1).toNat * 10)).block, (ad375.add ((x5_1).toNat * 10)).off + 4, none⟩ = some (.int .i64 ((rd_T29 l1 x5_1).f3.f0)) ∧ w'.cell? ⟨(ad375.add ((x5_1).toNat * 10)).block, (ad375.add ((x5_1).toNat * 10)).off + 5, none⟩ = some (.int .i64 ((rd_T29 l1 x5_1).f3.f1)) ∧ w'.cell? ⟨(ad375.add ((x5_1).toNat * 10)).block, (ad375.add ((x5_1).toNat * 10)).off + 6, none⟩ = some (.int .i64 ((rd_T29 l1 x5_1).f4.f0)) ∧ w'.cell? ⟨(ad375.add ((x5_1).toNat * 10)).block, (ad375.add ((x5_1).toNat * 10)).off + 7, none⟩ = some (.int .i64 ((rd_T29 l1 x5_1).f4.f1)) ∧ w'.cell? ⟨(ad375.add ((x5_1).toNat * 10)).block, (ad375.add ((x5_1).toNat * 10)).off + 8, none⟩ = some (.int .i64 ((rd_T29 l1 x5_1).f5)) ∧ w'.cell? ⟨(ad375.add ((x5_1).toNat * 10)).block, (ad375.add ((x5_1).toNat * 10)).off + 9, none⟩ = some (.int .i64 ((rd_T29 l1 x5_1).f6))) (ds := []) #[false, false, false, false, false, false, false, false, false, false] (by kernel_rfl) rfl rfl ⟨((HB.out.cell (World.block_lt_of_cell? w _ hw374_0)).trans hw374_0), ((HB.out.cell (World.block_lt_of_cell? w _ hw374_1)).trans hw374_1), ((HB.out.cell (World.block_lt_of_cell? w _ hw374_2)).trans hw374_2), ((HB.out.cell (World.block_lt_of_cell? w _ hw374_3)).trans hw374_3), ((HB.out.cell (World.block_lt_of_cell? w _ hw374_4)).trans hw374_4), ((HB.out.cell (World.block_lt_of_cell? w _ hw374_5)).trans hw374_5), ((HB.out.cell (World.block_lt_of_cell? w _ hw374_6)).trans hw374_6), ((HB.out.cell (World.block_lt_of_cell? w _ hw374_7)).trans hw374_7), ((HB.out.cell (World.block_lt_of_cell? w _ hw374_8)).trans hw374_8), ((HB.out.cell (World.block_lt_of_cell? w _ hw374_9)).trans hw374_9), ((HB.out.cell (World.block_lt_of_cell? w _ hw375_0)).trans hw375_0), ((HB.out.cell (World.block_lt_of_cell? w _ hw375_1)).trans hw375_1), ((HB.out.cell (World.block_lt_of_cell? w _ hw375_2)).trans hw375_2), ((HB.out.cell (World.block_lt_of_cell? w _ hw375_3)).trans hw375_3), ((HB.out.cell (World.block_lt_of_cell? w _ hw375_4)).trans hw375_4), ((HB.out.cell (World.block_lt_of_cell? w _ hw375_5)).trans hw375_5), ((HB.out.cell (World.block_lt_of_cell? w _ hw375_6)).trans hw375_6), ((HB.out.cell (World.block_lt_of_cell? w _ hw375_7)).trans hw375_7), ((HB.out.cell (World.block_lt_of_cell? w _ hw375_8)).trans hw375_8), ((HB.out.cell (World.block_lt_of_cell? w _ hw375_9)).trans hw375_9)⟩ (fun hHeld => ?_); refine with_tabW laws_eqCredS.tab6 laws_eqCredS.bits6 (fun HT_ HW_ => ?_)
                generalize wr.drew = w11 at HB hx374_0 hx374_1 hx374_2 hx374_3 hx374_4 hx374_5 hx374_6 hx374_7 hx374_8 hx374_9 hx375_0 hx375_1 hx375_2 hx375_3 hx375_4 hx375_5 hx375_6 hx375_7 hx375_8 hx375_9 hHeld ⊢
                refine pureZ_ (i := 0) (some 17) #[true, false, false, false, false, false, false, false, false, false] (any_of HT_.out (by kernel_rfl)) ?_
                refine pureZ_ (i := 1) (some 18) #[true, true, false, false, false, false, false, false, false, false] (any_of HT_.out (by kernel_rfl)) ?_
                refine pureZ_ (i := 2) (some 19) #[true, true, true, false, false, false, false, false, false, false] (any_of HT_.out (by kernel_rfl)) ?_
                refine pureZ_ (i := 4) (some 21) #[true, true, true, false, true, false, false, false, false, false] (any_of HT_.out (by kernel_rfl)) ?_
                refine pureZ_ (i := 5) (some 22) #[true, true, true, false, true, true, false, false, false, false] (any_of HT_.out (by kernel_rfl)) ?_
                refine pureZ_ (i := 6) (some 23) #[true, true, true, false, true, true, true, false, false, false] (any_of HT_.out (by kernel_rfl)) ?_
                refine takeZ_ (i := 3) (some 20) #[true, true, true, true, true, true, true, false, false, false] (take_ofW HT_.out HW_.out (by kernel_rfl)) hHeld ?_
                refine takeZ_ (i := 7) (some 24) #[true, true, true, true, true, true, true, true, false, false] (take_ofW HT_.out HW_.out (by kernel_rfl)) hHeld ?_
                refine one_ (i := 8) (N := some 25) #[true, true, true, true, true, true, true, true, true, false] rfl rfl (one_of HT_.out (by kernel_rfl)) (by decide) (fun K hK => ?_)
                refine goes_ Try.func87 (by kernel_rfl) rfl #[.agg #[.int .i64 ((rd_T29 l0 x5_1).f0), .int .i64 ((rd_T29 l0 x5_1).f1.f0), .int .i64 ((rd_T29 l0 x5_1).f1.f1), .int .i64 ((rd_T29 l0 x5_1).f2), .int .i64 ((rd_T29 l0 x5_1).f3.f0), .int .i64 ((rd_T29 l0 x5_1).f3.f1), .int .i64 ((rd_T29 l0 x5_1).f4.f0), .int .i64 ((rd_T29 l0 x5_1).f4.f1), .int .i64 ((rd_T29 l0 x5_1).f5), .int .i64 ((rd_T29 l0 x5_1).f6)], .agg #[.int .i64 ((rd_T29 l1 x5_1).f0), .int .i64 ((rd_T29 l1 x5_1).f1.f0), .int .i64 ((rd_T29 l1 x5_1).f1.f1), .int .i64 ((rd_T29 l1 x5_1).f2), .int .i64 ((rd_T29 l1 x5_1).f3.f0), .int .i64 ((rd_T29 l1 x5_1).f3.f1), .int .i64 ((rd_T29 l1 x5_1).f4.f0), .int .i64 ((rd_T29 l1 x5_1).f4.f1), .int .i64 ((rd_T29 l1 x5_1).f5), .int .i64 ((rd_T29 l1 x5_1).f6)]] (by rfl) rfl rfl (by (try simp only [List.map_toArray, List.map_cons, List.map_nil]); first | done | rfl | (simp only [List.length_drop, List.length_take]; rfl)) ?_
                with_reducible refine (laws_eqCred.calls ((rd_T29 l0 x5_1).f0) ((rd_T29 l0 x5_1).f1.f0) ((rd_T29 l0 x5_1).f1.f1) ((rd_T29 l0 x5_1).f2) ((rd_T29 l0 x5_1).f3.f0) ((rd_T29 l0 x5_1).f3.f1) ((rd_T29 l0 x5_1).f4.f0) ((rd_T29 l0 x5_1).f4.f1) ((rd_T29 l0 x5_1).f5) ((rd_T29 l0 x5_1).f6) ((rd_T29 l1 x5_1).f0) ((rd_T29 l1 x5_1).f1.f0) ((rd_T29 l1 x5_1).f1.f1) ((rd_T29 l1 x5_1).f2) ((rd_T29 l1 x5_1).f3.f0) ((rd_T29 l1 x5_1).f3.f1) ((rd_T29 l1 x5_1).f4.f0) ((rd_T29 l1 x5_1).f4.f1) ((rd_T29 l1 x5_1).f5) ((rd_T29 l1 x5_1).f6) false _ A7.out).mono ?_
                rintro e w12 ⟨rfl, hb⟩
                refine ⟨_, rfl, ?_⟩
                replace HB := hbs_ hb
                (try clear hb)
                (try clear hb2)
                (try clear hk)
                (try clear hi)
                refine hK.out _ _ ⟨((HB.out.cell (World.block_lt_of_cell? w _ hw374_0)).trans hw374_0), ((HB.out.cell (World.block_lt_of_cell? w _ hw374_1)).trans hw374_1), ((HB.out.cell (World.block_lt_of_cell? w _ hw374_2)).trans hw374_2), ((HB.out.cell (World.block_lt_of_cell? w _ hw374_3)).trans hw374_3), ((HB.out.cell (World.block_lt_of_cell? w _ hw374_4)).trans hw374_4), ((HB.out.cell (World.block_lt_of_cell? w _ hw374_5)).trans hw374_5), ((HB.out.cell (World.block_lt_of_cell? w _ hw374_6)).trans hw374_6), ((HB.out.cell (World.block_lt_of_cell? w _ hw374_7)).trans hw374_7), ((HB.out.cell (World.block_lt_of_cell? w _ hw374_8)).trans hw374_8), ((HB.out.cell (World.block_lt_of_cell? w _ hw374_9)).trans hw374_9), ((HB.out.cell (World.block_lt_of_cell? w _ hw375_0)).trans hw375_0), ((HB.out.cell (World.block_lt_of_cell? w _ hw375_1)).trans hw375_1), ((HB.out.cell (World.block_lt_of_cell? w _ hw375_2)).trans hw375_2), ((HB.out.cell (World.block_lt_of_cell? w _ hw375_3)).trans hw375_3), ((HB.out.cell (World.block_lt_of_cell? w _ hw375_4)).trans hw375_4), ((HB.out.cell (World.block_lt_of_cell? w _ hw375_5)).trans hw375_5), ((HB.out.cell (World.block_lt_of_cell? w _ hw375_6)).trans hw375_6), ((HB.out.cell (World.block_lt_of_cell? w _ hw375_7)).trans hw375_7), ((HB.out.cell (World.block_lt_of_cell? w _ hw375_8)).trans hw375_8), ((HB.out.cell (World.block_lt_of_cell? w _ hw375_9)).trans hw375_9)⟩ (fun hHeld => ?_)
                clear hK K
                refine norm_ (a' := ?_) ?_ ?_
                rotate_left
                · show Act.put _ (some 25) _ = _
                  simp only [Act.put, List.setIfInBounds_toArray, List.set_cons_zero, List.set_cons_succ, i64_w, i32_w]
                  rfl
                refine pureZ_ (i := 9) (some 26) #[true, true, true, true, true, true, true, true, true, true] (any_of HT_.out (by kernel_rfl)) ?_
                refine done_ (done_of HT_.out (by kernel_rfl)) ?_
                try go_wp2
                go_ret
                exact ⟨eq_, bl_⟩
            · rw [if_neg c6] at H
              exact absurd H (by simp)
          · rw [if_neg c5] at H
            exact absurd H (by simp)
        · rw [if_neg c4] at H
          have c4b0 : decide (x5_1 < (l0.length : Int)) = false := decide_eq_false c4
          clear c4
          obtain rfl := Option.some.inj H
          go_wp2
          go_ret
          exact ⟨eq_, bl_⟩
  · rw [if_neg c3] at H
    have c3b0 : ((l0.length : Int) == (l1.length : Int)) = false := beq_eq_false_iff_ne.mpr c3
    have c3b1 : ((l0.length : Int) != (l1.length : Int)) = true := bne_iff_ne.mpr c3
    have c3b2 : (l0.length == l1.length) = false := by first | simpa using c3 | (simp at c3 ⊢; omega)
    obtain rfl := Option.some.inj H
    go_enter Try.func31, Try.ntmps31
    go_wp2
    go_ret
    exact ⟨eq_, bl_⟩

end Go.Proofs.Ytcgnegnljffkmaa.PA
