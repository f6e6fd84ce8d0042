import Derived.Test.YtjpjidgfcljpcaaKCPCx0
-- printed by wip/tools
namespace Go.Proofs.Ytjpjidgfcljpcaa.PC
open Go.RowKit Go.Proofs.YtjpjidgfcljpcaaW.PrintWords Go.Proofs.YtjpjidgfcljpcaaW.PrintLast Go.Proofs.YtjpjidgfcljpcaaW.PrintMore
attribute [local go_sem] max2_int min2_int max_two min_two max_three min_three max_four min_four
set_option linter.unusedVariables false
set_option linter.unusedSimpArgs false
def laws_eqRole.f (a0_0 : Int) (a0_1 : Int) (a1_0 : Int) (a1_1 : Int) : Option (Bool) := if a0_0 = a1_0 then (if a0_1 = a1_1 then (some true) else (some false)) else (some false)
set_option maxHeartbeats 8000000 in
set_option maxRecDepth 100000 in
theorem laws_eqRole.calls (a0_0 : Int) (a0_1 : Int) (a1_0 : Int) (a1_1 : Int) (r : Bool) (w : World) (h : laws_eqRole.f a0_0 a0_1 a1_0 a1_1 = some r) :
  Calls Try.prog 137 #[.agg #[.int .i64 a0_0, .int .i64 a0_1], .agg #[.int .i64 a1_0, .int .i64 a1_1]] w fun e w' => e = .returned (.bool r) ∧ Below w.heap.size w w' := by
 have hu49 := Try.underlying49
 have HB := Aside0.mk (Below.refl w.heap.size w)
 have H : (if a0_0 = a1_0 then (if a0_1 = a1_1 then (some true) else (some false)) else (some false)) = some r := h
 clear h
 by_cases c3 : a0_0 = a1_0
 ·rw [if_pos c3] at H
  have c3b0 : (a0_0 == a1_0) = true := beq_iff_eq.mpr c3
  have c3b1 : (a0_0 != a1_0) = false := bne_eq_false_iff_eq.mpr c3
  clear c3
  by_cases c4 : a0_1 = a1_1
  ·rw [if_pos c4] at H
   have c4b0 : (a0_1 == a1_1) = true := beq_iff_eq.mpr c4
   have c4b1 : (a0_1 != a1_1) = false := bne_eq_false_iff_eq.mpr c4
   clear c4
   obtain rfl := Option.some.inj H
   go_enter Try.func137, Try.ntmps137
   go_wp2_with (first | ((with_reducible refine gate_dst (N := 2) rfl ?_); refine box_event ?hg (N := 2) ?hd (cs := #[.int .i64 a0_0, .int .i64 a0_1]) (t := 49) ?hr ?_; (case hd => rfl); (case hg => rfl); (case hr => first | (go_simp; done) | (go_simp; rfl)); intro gb412 hg w5 hbox hb; have BK412 := Aside0.mk (hbox); have GW412 := gs_ hg; have GE412 := gs_ hg; replace HB := hbs_ hb; clear hb hbox hg) | ((with_reducible refine gate_dst (N := 3) rfl ?_); refine box_event ?hg (N := 3) ?hd (cs := #[.int .i64 a1_0, .int .i64 a1_1]) (t := 49) ?hr ?_; (case hd => rfl); (case hg => rfl); (case hr => first | (go_simp; done) | (go_simp; rfl)); intro gb413 hg w6 hbox hb; have BK413 := Aside0.mk (hbox); have GW413 := gs_ hg; have GE413 := gs_ hg; replace HB := hbs_ hb; have NB412_413 := nl_ hg BK412; have NB413_412 := nr_ hg BK412; replace BK412 := bkb_ BK412 hb; clear hb hbox hg; have hnb7 := NB412_413.out; have hnc7 := NB413_412.out; have hcz8 := blk_cell BK412.out; have hfz8 := blk_frozen BK412.out; have hcz9 := blk_cell BK413.out; have hfz9 := blk_frozen BK413.out))
   go_ret
   exact ⟨eq_, bl_⟩
  ·rw [if_neg c4] at H
   have c4b0 : (a0_1 == a1_1) = false := beq_eq_false_iff_ne.mpr c4
   have c4b1 : (a0_1 != a1_1) = true := bne_iff_ne.mpr c4
   obtain rfl := Option.some.inj H
   go_enter Try.func137, Try.ntmps137
   go_wp2_with (first | ((with_reducible refine gate_dst (N := 2) rfl ?_); refine box_event ?hg (N := 2) ?hd (cs := #[.int .i64 a0_0, .int .i64 a0_1]) (t := 49) ?hr ?_; (case hd => rfl); (case hg => rfl); (case hr => first | (go_simp; done) | (go_simp; rfl)); intro gb412 hg w10 hbox hb; have BK412 := Aside0.mk (hbox); have GW412 := gs_ hg; have GE412 := gs_ hg; replace HB := hbs_ hb; clear hb hbox hg) | ((with_reducible refine gate_dst (N := 3) rfl ?_); refine box_event ?hg (N := 3) ?hd (cs := #[.int .i64 a1_0, .int .i64 a1_1]) (t := 49) ?hr ?_; (case hd => rfl); (case hg => rfl); (case hr => first | (go_simp; done) | (go_simp; rfl)); intro gb413 hg w11 hbox hb; have BK413 := Aside0.mk (hbox); have GW413 := gs_ hg; have GE413 := gs_ hg; replace HB := hbs_ hb; have NB412_413 := nl_ hg BK412; have NB413_412 := nr_ hg BK412; replace BK412 := bkb_ BK412 hb; clear hb hbox hg; have hnb12 := NB412_413.out; have hnc12 := NB413_412.out; have hcz13 := blk_cell BK412.out; have hfz13 := blk_frozen BK412.out; have hcz14 := blk_cell BK413.out; have hfz14 := blk_frozen BK413.out))
   go_ret
   exact ⟨eq_, bl_⟩
 ·rw [if_neg c3] at H
  have c3b0 : (a0_0 == a1_0) = false := beq_eq_false_iff_ne.mpr c3
  have c3b1 : (a0_0 != a1_0) = true := bne_iff_ne.mpr c3
  obtain rfl := Option.some.inj H
  go_enter Try.func137, Try.ntmps137
  go_wp2_with (first | ((with_reducible refine gate_dst (N := 2) rfl ?_); refine box_event ?hg (N := 2) ?hd (cs := #[.int .i64 a0_0, .int .i64 a0_1]) (t := 49) ?hr ?_; (case hd => rfl); (case hg => rfl); (case hr => first | (go_simp; done) | (go_simp; rfl)); intro gb412 hg w15 hbox hb; have BK412 := Aside0.mk (hbox); have GW412 := gs_ hg; have GE412 := gs_ hg; replace HB := hbs_ hb; clear hb hbox hg) | ((with_reducible refine gate_dst (N := 3) rfl ?_); refine box_event ?hg (N := 3) ?hd (cs := #[.int .i64 a1_0, .int .i64 a1_1]) (t := 49) ?hr ?_; (case hd => rfl); (case hg => rfl); (case hr => first | (go_simp; done) | (go_simp; rfl)); intro gb413 hg w16 hbox hb; have BK413 := Aside0.mk (hbox); have GW413 := gs_ hg; have GE413 := gs_ hg; replace HB := hbs_ hb; have NB412_413 := nl_ hg BK412; have NB413_412 := nr_ hg BK412; replace BK412 := bkb_ BK412 hb; clear hb hbox hg; have hnb17 := NB412_413.out; have hnc17 := NB413_412.out; have hcz18 := blk_cell BK412.out; have hfz18 := blk_frozen BK412.out; have hcz19 := blk_cell BK413.out; have hfz19 := blk_frozen BK413.out))
  go_ret
  exact ⟨eq_, bl_⟩
def laws_eqFact.f (a0_0 : Int) (a0_1 : Int) (a0_2 : Int) (a1_0 : Int) (a1_1 : Int) (a1_2 : Int) : Option (Bool) := (laws_eqRole.f a0_0 a0_1 a1_0 a1_1).bind fun t416 => (if t416 = true then (if a0_2 = a1_2 then (some true) else (some false)) else (some false))
set_option maxHeartbeats 8000000 in
set_option maxRecDepth 100000 in
theorem laws_eqFact.calls (a0_0 : Int) (a0_1 : Int) (a0_2 : Int) (a1_0 : Int) (a1_1 : Int) (a1_2 : Int) (r : Bool) (w : World) (h : laws_eqFact.f a0_0 a0_1 a0_2 a1_0 a1_1 a1_2 = some r) :
  Calls Try.prog 165 #[.agg #[.int .i64 a0_0, .int .i64 a0_1, .int .i64 a0_2], .agg #[.int .i64 a1_0, .int .i64 a1_1, .int .i64 a1_2]] w fun e w' => e = .returned (.bool r) ∧ Below w.heap.size w w' := by
 have hu51 := Try.underlying51
 have hu49 := Try.underlying49
 have HB := Aside0.mk (Below.refl w.heap.size w)
 have H : ((laws_eqRole.f a0_0 a0_1 a1_0 a1_1).bind fun t416 => (if t416 = true then (if a0_2 = a1_2 then (some true) else (some false)) else (some false))) = some r := h
 clear h
 obtain ⟨t416, A3, H⟩ := bindE_ H
 by_cases c4 : t416 = true
 ·subst c4
  replace H := ite_t_ H
  by_cases c5 : a0_2 = a1_2
  ·rw [if_pos c5] at H
   have c5b0 : (a0_2 == a1_2) = true := beq_iff_eq.mpr c5
   have c5b1 : (a0_2 != a1_2) = false := bne_eq_false_iff_eq.mpr c5
   clear c5
   obtain rfl := Option.some.inj H
   go_enter Try.func165, Try.ntmps165
   go_wp2_with (first | ((with_reducible refine gate_dst (N := 2) rfl ?_); refine box_event ?hg (N := 2) ?hd (cs := #[.int .i64 a0_0, .int .i64 a0_1, .int .i64 a0_2]) (t := 51) ?hr ?_; (case hd => rfl); (case hg => rfl); (case hr => first | (go_simp; done) | (go_simp; rfl)); intro gb414 hg w6 hbox hb; have BK414 := Aside0.mk (hbox); have GW414 := gs_ hg; have GE414 := gs_ hg; replace HB := hbs_ hb; clear hb hbox hg) | ((with_reducible refine gate_dst (N := 3) rfl ?_); refine box_event ?hg (N := 3) ?hd (cs := #[.int .i64 a1_0, .int .i64 a1_1, .int .i64 a1_2]) (t := 51) ?hr ?_; (case hd => rfl); (case hg => rfl); (case hr => first | (go_simp; done) | (go_simp; rfl)); intro gb415 hg w7 hbox hb; have BK415 := Aside0.mk (hbox); have GW415 := gs_ hg; have GE415 := gs_ hg; replace HB := hbs_ hb; have NB414_415 := nl_ hg BK414; have NB415_414 := nr_ hg BK414; replace BK414 := bkb_ BK414 hb; clear hb hbox hg; have hnb8 := NB414_415.out; have hnc8 := NB415_414.out; have hcz9 := blk_cell BK414.out; have hfz9 := blk_frozen BK414.out; have hcz10 := blk_cell BK415.out; have hfz10 := blk_frozen BK415.out) | ((with_reducible refine gate_callee (f := 137) rfl ?_); refine goesC_ (some 9) Try.func137 #[.agg #[.int .i64 a0_0, .int .i64 a0_1], .agg #[.int .i64 a1_0, .int .i64 a1_1]] ?_; (with_reducible refine (laws_eqRole.calls a0_0 a0_1 a1_0 a1_1 true _ A3.out).mono ?_); rintro e w11 ⟨rfl, hb⟩; refine ⟨_, rfl, ?_⟩; replace BK414 := bkb_ BK414 hb; replace BK415 := bkb_ BK415 hb; replace HB := hbs_ hb; clear hb; have hcz12 := blk_cell BK414.out; have hfz12 := blk_frozen BK414.out; have hcz13 := blk_cell BK415.out; have hfz13 := blk_frozen BK415.out))
   go_ret
   exact ⟨eq_, bl_⟩
  ·rw [if_neg c5] at H
   have c5b0 : (a0_2 == a1_2) = false := beq_eq_false_iff_ne.mpr c5
   have c5b1 : (a0_2 != a1_2) = true := bne_iff_ne.mpr c5
   obtain rfl := Option.some.inj H
   go_enter Try.func165, Try.ntmps165
   go_wp2_with (first | ((with_reducible refine gate_dst (N := 2) rfl ?_); refine box_event ?hg (N := 2) ?hd (cs := #[.int .i64 a0_0, .int .i64 a0_1, .int .i64 a0_2]) (t := 51) ?hr ?_; (case hd => rfl); (case hg => rfl); (case hr => first | (go_simp; done) | (go_simp; rfl)); intro gb414 hg w14 hbox hb; have BK414 := Aside0.mk (hbox); have GW414 := gs_ hg; have GE414 := gs_ hg; replace HB := hbs_ hb; clear hb hbox hg) | ((with_reducible refine gate_dst (N := 3) rfl ?_); refine box_event ?hg (N := 3) ?hd (cs := #[.int .i64 a1_0, .int .i64 a1_1, .int .i64 a1_2]) (t := 51) ?hr ?_; (case hd => rfl); (case hg => rfl); (case hr => first | (go_simp; done) | (go_simp; rfl)); intro gb415 hg w15 hbox hb; have BK415 := Aside0.mk (hbox); have GW415 := gs_ hg; have GE415 := gs_ hg; replace HB := hbs_ hb; have NB414_415 := nl_ hg BK414; have NB415_414 := nr_ hg BK414; replace BK414 := bkb_ BK414 hb; clear hb hbox hg; have hnb16 := NB414_415.out; have hnc16 := NB415_414.out; have hcz17 := blk_cell BK414.out; have hfz17 := blk_frozen BK414.out; have hcz18 := blk_cell BK415.out; have hfz18 := blk_frozen BK415.out) | ((with_reducible refine gate_callee (f := 137) rfl ?_); refine goesC_ (some 9) Try.func137 #[.agg #[.int .i64 a0_0, .int .i64 a0_1], .agg #[.int .i64 a1_0, .int .i64 a1_1]] ?_; (with_reducible refine (laws_eqRole.calls a0_0 a0_1 a1_0 a1_1 true _ A3.out).mono ?_); rintro e w19 ⟨rfl, hb⟩; refine ⟨_, rfl, ?_⟩; replace BK414 := bkb_ BK414 hb; replace BK415 := bkb_ BK415 hb; replace HB := hbs_ hb; clear hb; have hcz20 := blk_cell BK414.out; have hfz20 := blk_frozen BK414.out; have hcz21 := blk_cell BK415.out; have hfz21 := blk_frozen BK415.out))
   go_ret
   exact ⟨eq_, bl_⟩
 ·replace c4 := Bool.eq_false_iff.mpr c4
  subst c4
  replace H := ite_f_ H
  obtain rfl := Option.some.inj H
  go_enter Try.func165, Try.ntmps165
  go_wp2_with (first | ((with_reducible refine gate_dst (N := 2) rfl ?_); refine box_event ?hg (N := 2) ?hd (cs := #[.int .i64 a0_0, .int .i64 a0_1, .int .i64 a0_2]) (t := 51) ?hr ?_; (case hd => rfl); (case hg => rfl); (case hr => first | (go_simp; done) | (go_simp; rfl)); intro gb414 hg w22 hbox hb; have BK414 := Aside0.mk (hbox); have GW414 := gs_ hg; have GE414 := gs_ hg; replace HB := hbs_ hb; clear hb hbox hg) | ((with_reducible refine gate_dst (N := 3) rfl ?_); refine box_event ?hg (N := 3) ?hd (cs := #[.int .i64 a1_0, .int .i64 a1_1, .int .i64 a1_2]) (t := 51) ?hr ?_; (case hd => rfl); (case hg => rfl); (case hr => first | (go_simp; done) | (go_simp; rfl)); intro gb415 hg w23 hbox hb; have BK415 := Aside0.mk (hbox); have GW415 := gs_ hg; have GE415 := gs_ hg; replace HB := hbs_ hb; have NB414_415 := nl_ hg BK414; have NB415_414 := nr_ hg BK414; replace BK414 := bkb_ BK414 hb; clear hb hbox hg; have hnb24 := NB414_415.out; have hnc24 := NB415_414.out; have hcz25 := blk_cell BK414.out; have hfz25 := blk_frozen BK414.out; have hcz26 := blk_cell BK415.out; have hfz26 := blk_frozen BK415.out) | ((with_reducible refine gate_callee (f := 137) rfl ?_); refine goesC_ (some 9) Try.func137 #[.agg #[.int .i64 a0_0, .int .i64 a0_1], .agg #[.int .i64 a1_0, .int .i64 a1_1]] ?_; (with_reducible refine (laws_eqRole.calls a0_0 a0_1 a1_0 a1_1 false _ A3.out).mono ?_); rintro e w27 ⟨rfl, hb⟩; refine ⟨_, rfl, ?_⟩; replace BK414 := bkb_ BK414 hb; replace BK415 := bkb_ BK415 hb; replace HB := hbs_ hb; clear hb))
  go_ret
  exact ⟨eq_, bl_⟩
def laws_eqCost.f (a0_0 : Int) (a0_1 : Int) (a0_2 : Int) (a0_3 : Int) (a1_0 : Int) (a1_1 : Int) (a1_2 : Int) (a1_3 : Int) : Option (Bool) := (laws_eqFact.f a0_0 a0_1 a0_2 a1_0 a1_1 a1_2).bind fun t419 => (if t419 = true then (if a0_3 = a1_3 then (some true) else (some false)) else (some false))
set_option maxHeartbeats 8000000 in
set_option maxRecDepth 100000 in
theorem laws_eqCost.calls (a0_0 : Int) (a0_1 : Int) (a0_2 : Int) (a0_3 : Int) (a1_0 : Int) (a1_1 : Int) (a1_2 : Int) (a1_3 : Int) (r : Bool) (w : World) (h : laws_eqCost.f a0_0 a0_1 a0_2 a0_3 a1_0 a1_1 a1_2 a1_3 = some r) :
  Calls Try.prog 92 #[.agg #[.int .i64 a0_0, .int .i64 a0_1, .int .i64 a0_2, .int .i64 a0_3], .agg #[.int .i64 a1_0, .int .i64 a1_1, .int .i64 a1_2, .int .i64 a1_3]] w fun e w' => e = .returned (.bool r) ∧ Below w.heap.size w w' := by
 have hu53 := Try.underlying53
 have hu51 := Try.underlying51
 have HB := Aside0.mk (Below.refl w.heap.size w)
 have H : ((laws_eqFact.f a0_0 a0_1 a0_2 a1_0 a1_1 a1_2).bind fun t419 => (if t419 = true then (if a0_3 = a1_3 then (some true) else (some false)) else (some false))) = some r := h
 clear h
 obtain ⟨t419, A3, H⟩ := bindE_ H
 by_cases c4 : t419 = true
 ·subst c4
  replace H := ite_t_ H
  by_cases c5 : a0_3 = a1_3
  ·rw [if_pos c5] at H
   have c5b0 : (a0_3 == a1_3) = true := beq_iff_eq.mpr c5
   have c5b1 : (a0_3 != a1_3) = false := bne_eq_false_iff_eq.mpr c5
   clear c5
   obtain rfl := Option.some.inj H
   go_enter Try.func92, Try.ntmps92
   go_wp2_with (first | ((with_reducible refine gate_dst (N := 2) rfl ?_); refine box_event ?hg (N := 2) ?hd (cs := #[.int .i64 a0_0, .int .i64 a0_1, .int .i64 a0_2, .int .i64 a0_3]) (t := 53) ?hr ?_; (case hd => rfl); (case hg => rfl); (case hr => first | (go_simp; done) | (go_simp; rfl)); intro gb417 hg w6 hbox hb; have BK417 := Aside0.mk (hbox); have GW417 := gs_ hg; have GE417 := gs_ hg; replace HB := hbs_ hb; clear hb hbox hg) | ((with_reducible refine gate_dst (N := 3) rfl ?_); refine box_event ?hg (N := 3) ?hd (cs := #[.int .i64 a1_0, .int .i64 a1_1, .int .i64 a1_2, .int .i64 a1_3]) (t := 53) ?hr ?_; (case hd => rfl); (case hg => rfl); (case hr => first | (go_simp; done) | (go_simp; rfl)); intro gb418 hg w7 hbox hb; have BK418 := Aside0.mk (hbox); have GW418 := gs_ hg; have GE418 := gs_ hg; replace HB := hbs_ hb; have NB417_418 := nl_ hg BK417; have NB418_417 := nr_ hg BK417; replace BK417 := bkb_ BK417 hb; clear hb hbox hg; have hnb8 := NB417_418.out; have hnc8 := NB418_417.out; have hcz9 := blk_cell BK417.out; have hfz9 := blk_frozen BK417.out; have hcz10 := blk_cell BK418.out; have hfz10 := blk_frozen BK418.out) | ((with_reducible refine gate_callee (f := 165) rfl ?_); refine goesC_ (some 9) Try.func165 #[.agg #[.int .i64 a0_0, .int .i64 a0_1, .int .i64 a0_2], .agg #[.int .i64 a1_0, .int .i64 a1_1, .int .i64 a1_2]] ?_; (with_reducible refine (laws_eqFact.calls a0_0 a0_1 a0_2 a1_0 a1_1 a1_2 true _ A3.out).mono ?_); rintro e w11 ⟨rfl, hb⟩; refine ⟨_, rfl, ?_⟩; replace BK417 := bkb_ BK417 hb; replace BK418 := bkb_ BK418 hb; replace HB := hbs_ hb; clear hb; have hcz12 := blk_cell BK417.out; have hfz12 := blk_frozen BK417.out; have hcz13 := blk_cell BK418.out; have hfz13 := blk_frozen BK418.out))
   go_ret
   exact ⟨eq_, bl_⟩
  ·rw [if_neg c5] at H
   have c5b0 : (a0_3 == a1_3) = false := beq_eq_false_iff_ne.mpr c5
   have c5b1 : (a0_3 != a1_3) = true := bne_iff_ne.mpr c5
   obtain rfl := Option.some.inj H
   go_enter Try.func92, Try.ntmps92
   go_wp2_with (first | ((with_reducible refine gate_dst (N := 2) rfl ?_); refine box_event ?hg (N := 2) ?hd (cs := #[.int .i64 a0_0, .int .i64 a0_1, .int .i64 a0_2, .int .i64 a0_3]) (t := 53) ?hr ?_; (case hd => rfl); (case hg => rfl); (case hr => first | (go_simp; done) | (go_simp; rfl)); intro gb417 hg w14 hbox hb; have BK417 := Aside0.mk (hbox); have GW417 := gs_ hg; have GE417 := gs_ hg; replace HB := hbs_ hb; clear hb hbox hg) | ((with_reducible refine gate_dst (N := 3) rfl ?_); refine box_event ?hg (N := 3) ?hd (cs := #[.int .i64 a1_0, .int .i64 a1_1, .int .i64 a1_2, .int .i64 a1_3]) (t := 53) ?hr ?_; (case hd => rfl); (case hg => rfl); (case hr => first | (go_simp; done) | (go_simp; rfl)); intro gb418 hg w15 hbox hb; have BK418 := Aside0.mk (hbox); have GW418 := gs_ hg; have GE418 := gs_ hg; replace HB := hbs_ hb; have NB417_418 := nl_ hg BK417; have NB418_417 := nr_ hg BK417; replace BK417 := bkb_ BK417 hb; clear hb hbox hg; have hnb16 := NB417_418.out; have hnc16 := NB418_417.out; have hcz17 := blk_cell BK417.out; have hfz17 := blk_frozen BK417.out; have hcz18 := blk_cell BK418.out; have hfz18 := blk_frozen BK418.out) | ((with_reducible refine gate_callee (f := 165) rfl ?_); refine goesC_ (some 9) Try.func165 #[.agg #[.int .i64 a0_0, .int .i64 a0_1, .int .i64 a0_2], .agg #[.int .i64 a1_0, .int .i64 a1_1, .int .i64 a1_2]] ?_; (with_reducible refine (laws_eqFact.calls a0_0 a0_1 a0_2 a1_0 a1_1 a1_2 true _ A3.out).mono ?_); rintro e w19 ⟨rfl, hb⟩; refine ⟨_, rfl, ?_⟩; replace BK417 := bkb_ BK417 hb; replace BK418 := bkb_ BK418 hb; replace HB := hbs_ hb; clear hb; have hcz20 := blk_cell BK417.out; have hfz20 := blk_frozen BK417.out; have hcz21 := blk_cell BK418.out; have hfz21 := blk_frozen BK418.out))
   go_ret
   exact ⟨eq_, bl_⟩
 ·replace c4 := Bool.eq_false_iff.mpr c4
  subst c4
  replace H := ite_f_ H
  obtain rfl := Option.some.inj H
  go_enter Try.func92, Try.ntmps92
  go_wp2_with (first | ((with_reducible refine gate_dst (N := 2) rfl ?_); refine box_event ?hg (N := 2) ?hd (cs := #[.int .i64 a0_0, .int .i64 a0_1, .int .i64 a0_2, .int .i64 a0_3]) (t := 53) ?hr ?_; (case hd => rfl); (case hg => rfl); (case hr => first | (go_simp; done) | (go_simp; rfl)); intro gb417 hg w22 hbox hb; have BK417 := Aside0.mk (hbox); have GW417 := gs_ hg; have GE417 := gs_ hg; replace HB := hbs_ hb; clear hb hbox hg) | ((with_reducible refine gate_dst (N := 3) rfl ?_); refine box_event ?hg (N := 3) ?hd (cs := #[.int .i64 a1_0, .int .i64 a1_1, .int .i64 a1_2, .int .i64 a1_3]) (t := 53) ?hr ?_; (case hd => rfl); (case hg => rfl); (case hr => first | (go_simp; done) | (go_simp; rfl)); intro gb418 hg w23 hbox hb; have BK418 := Aside0.mk (hbox); have GW418 := gs_ hg; have GE418 := gs_ hg; replace HB := hbs_ hb; have NB417_418 := nl_ hg BK417; have NB418_417 := nr_ hg BK417; replace BK417 := bkb_ BK417 hb; clear hb hbox hg; have hnb24 := NB417_418.out; have hnc24 := NB418_417.out; have hcz25 := blk_cell BK417.out; have hfz25 := blk_frozen BK417.out; have hcz26 := blk_cell BK418.out; have hfz26 := blk_frozen BK418.out) | ((with_reducible refine gate_callee (f := 165) rfl ?_); refine goesC_ (some 9) Try.func165 #[.agg #[.int .i64 a0_0, .int .i64 a0_1, .int .i64 a0_2], .agg #[.int .i64 a1_0, .int .i64 a1_1, .int .i64 a1_2]] ?_; (with_reducible refine (laws_eqFact.calls a0_0 a0_1 a0_2 a1_0 a1_1 a1_2 false _ A3.out).mono ?_); rintro e w27 ⟨rfl, hb⟩; refine ⟨_, rfl, ?_⟩; replace BK417 := bkb_ BK417 hb; replace BK418 := bkb_ BK418 hb; replace HB := hbs_ hb; clear hb))
  go_ret
  exact ⟨eq_, bl_⟩
def laws_eqCostS.l0 : Nat → List (S53) → List (S53) → Int → Option (Bool)
 | 0, _, _, _ => none
 | k + 1, x0, x1, x5 => if x5 < (x0.length : Int) then (if 0 ≤ x5 then (if x5 < (x1.length : Int) then ((laws_eqCost.f ((rd_T53 x0 x5).f0.f0.f0) ((rd_T53 x0 x5).f0.f0.f1) ((rd_T53 x0 x5).f0.f1) ((rd_T53 x0 x5).f1) ((rd_T53 x1 x5).f0.f0.f0) ((rd_T53 x1 x5).f0.f0.f1) ((rd_T53 x1 x5).f0.f1) ((rd_T53 x1 x5).f1)).bind fun t422 => (if t422 = true then (laws_eqCostS.l0 k x0 x1 (wrap64 (x5 + 1))) else (some false))) else (none)) else (none)) else (some true)
def laws_eqCostS.f (k : Nat) (l0 : List (S53)) (l1 : List (S53)) : Option (Bool) := if (l0.length : Int) = (l1.length : Int) then (laws_eqCostS.l0 k l0 l1 0) else (some false)
def laws_eqCostS.T6 : Bool × List (List Nat × List Nat) := (true, [([], []), ([], []), ([0, 1], [0, 1]), ([2], [2]), ([], []), ([], []), ([4, 5], [4, 5]), ([6], [6]), ([3, 7], [3, 7]), ([8], [8])])
def laws_eqCostS.B6 : List Nat := [0, 0, 3, 7, 0, 0, 48, 112, 255, 511]
theorem laws_eqCostS.tab6 : rtab .any (opsOf Try.f24 6) = laws_eqCostS.T6 := by kernel_rfl
theorem laws_eqCostS.bits6 : waitsOk laws_eqCostS.T6.2 laws_eqCostS.B6 = true := by kernel_rfl
set_option maxHeartbeats 8000000 in
set_option maxRecDepth 100000 in
theorem laws_eqCostS.calls (k : Nat) (A0 : Option Addr) (c0 : Nat) (l0 : List (S53)) (A1 : Option Addr) (c1 : Nat) (l1 : List (S53)) (r : Bool) (w : World) (hr0 : Kd.C k53 w A0 l0.length l0) (hc0 : l0.length ≤ c0) (hr1 : Kd.C k53 w A1 l1.length l1) (hc1 : l1.length ≤ c1) (h : laws_eqCostS.f k l0 l1 = some r) :
  Calls Try.prog 24 #[.slice A0 l0.length c0, .slice A1 l1.length c1] w fun e w' => e = .returned (.bool r) ∧ Below w.heap.size w w' := by
 have hu53 := Try.underlying53
 have HR0 := Aside0.mk hr0
 have HC0 := Aside0.mk hc0
 clear hr0 hc0
 have HR1 := Aside0.mk hr1
 have HC1 := Aside0.mk hc1
 clear hr1 hc1
 have HB := Aside0.mk (Below.refl w.heap.size w)
 have H : (if (l0.length : Int) = (l1.length : Int) then (laws_eqCostS.l0 k l0 l1 0) else (some false)) = some r := h
 clear h
 by_cases c3 : (l0.length : Int) = (l1.length : Int)
 ·rw [if_pos c3] at H
  have c3b0 : ((l0.length : Int) == (l1.length : Int)) = true := beq_iff_eq.mpr c3
  have c3b1 : ((l0.length : Int) != (l1.length : Int)) = false := bne_eq_false_iff_eq.mpr c3
  have c3b2 : (l0.length == l1.length) = true := by first | simpa using c3 | (simp at c3 ⊢; omega)
  clear c3
  have H' := Aside0.mk H
  clear H
  go_enter Try.func24, Try.ntmps24
  go_wp2
  go_loopg [5] k (fun kq v5 w' => ∃ (x5_1 : Int), v5 = .int .i64 x5_1 ∧ Aside0 (laws_eqCostS.l0 kq l0 l1 x5_1 = some r) ∧ Aside0 (kq ≤ k) ∧ Aside0 (Below w.heap.size w w'))
  case atStart => exact ⟨(0), rf_, H', ⟨Nat.le_refl _⟩, ⟨bl_⟩⟩
  case round =>
   clear H'
   try clear c1
   try clear c2
   try clear p2
   try clear c3
   try clear c3b0
   try clear c3b1
   try clear c3b2
   obtain ⟨x5_1, rfl, HA, HK1, HB⟩ := hrel
   cases gk with
   | zero => exact absurd HA.out (by simp [laws_eqCostS.l0])
   | succ k1 =>
    have H := HA.out
    clear HA
    simp only [laws_eqCostS.l0] at H
    by_cases c4 : x5_1 < (l0.length : Int)
    ·rw [if_pos c4] at H
     have c4b0 : decide (x5_1 < (l0.length : Int)) = true := decide_eq_true c4
     clear c4
     obtain ⟨c5b0, H⟩ := ifd_ H
     obtain ⟨c6b0, H⟩ := ifd_ H
     obtain ⟨t422, A7, H⟩ := bindE_ H
     by_cases c8 : t422 = true
     ·subst c8
      replace H := ite_t_ H
      have H' := Aside0.mk H
      clear H
      try go_wp2
      replace HB := Aside0.mk (below_drew1 HB.out)
      have p420 : 0 ≤ (x5_1 : Int) := od_
      have q420 : x5_1 < (l0.length : Int) := od_
      obtain ⟨ad420, e420, hx420_0, hx420_1, hx420_2, hx420_3⟩ := at_T53 HR0.out x5_1 p420 q420
      have hw420_3 := hx420_3
      have hw420_2 := hx420_2
      have hw420_1 := hx420_1
      have hw420_0 := hx420_0
      cases e420
      replace hx420_0 := cb_ HB hx420_0
      replace hx420_1 := cb_ HB hx420_1
      replace hx420_2 := cb_ HB hx420_2
      replace hx420_3 := cb_ HB hx420_3
      replace p420 := eq_true p420
      replace q420 := eq_true q420
      have p421 : 0 ≤ (x5_1 : Int) := od_
      have q421 : x5_1 < (l1.length : Int) := od_
      obtain ⟨ad421, e421, hx421_0, hx421_1, hx421_2, hx421_3⟩ := at_T53 HR1.out x5_1 p421 q421
      have hw421_3 := hx421_3
      have hw421_2 := hx421_2
      have hw421_1 := hx421_1
      have hw421_0 := hx421_0
      cases e421
      replace hx421_0 := cb_ HB hx421_0
      replace hx421_1 := cb_ HB hx421_1
      replace hx421_2 := cb_ HB hx421_2
      replace hx421_3 := cb_ HB hx421_3
      replace p421 := eq_true p421
      replace q421 := eq_true q421
      refine start_ (n := 10) (S := fun w' => w'.cell? (ad420.add ((x5_1).toNat * 4)) = some (.int .i64 ((rd_T53 l0 x5_1).f0.f0.f0)) ∧ w'.cell? ⟨(ad420.add ((x5_1).toNat * 4)).block, (ad420.add ((x5_1).toNat * 4)).off + 1, none⟩ = some (.int .i64 ((rd_T53 l0 x5_1).f0.f0.f1)) ∧ w'.cell? ⟨(ad420.add ((x5_1).toNat * 4)).block, (ad420.add ((x5_1).toNat * 4)).off + 2, none⟩ = some (.int .i64 ((rd_T53 l0 x5_1).f0.f1)) ∧ w'.cell? ⟨(ad420.add ((x5_1).toNat * 4)).block, (ad420.add ((x5_1).toNat * 4)).off + 3, none⟩ = some (.int .i64 ((rd_T53 l0 x5_1).f1)) ∧ w'.cell? (ad421.add ((x5_1).toNat * 4)) = some (.int .i64 ((rd_T53 l1 x5_1).f0.f0.f0)) ∧ w'.cell? ⟨(ad421.add ((x5_1).toNat * 4)).block, (ad421.add ((x5_1).toNat * 4)).off + 1, none⟩ = some (.int .i64 ((rd_T53 l1 x5_1).f0.f0.f1)) ∧ w'.cell? ⟨(ad421.add ((x5_1).toNat * 4)).block, (ad421.add ((x5_1).toNat * 4)).off + 2, none⟩ = some (.int .i64 ((rd_T53 l1 x5_1).f0.f1)) ∧ w'.cell? ⟨(ad421.add ((x5_1).toNat * 4)).block, (ad421.add ((x5_1).toNat * 4)).off + 3, none⟩ = some (.int .i64 ((rd_T53 l1 x5_1).f1))) (ds := []) #[false, false, false, false, false, false, false, false, false, false] (by kernel_rfl) rfl rfl ⟨(cb_ HB hw420_0 :), (cb_ HB hw420_1 :), (cb_ HB hw420_2 :), (cb_ HB hw420_3 :), (cb_ HB hw421_0 :), (cb_ HB hw421_1 :), (cb_ HB hw421_2 :), (cb_ HB hw421_3 :)⟩ (fun hHeld => ?_); refine with_tabW laws_eqCostS.tab6 laws_eqCostS.bits6 (fun HT_ HW_ => ?_)
      generalize wr.drew = w9 at HB hx420_0 hx420_1 hx420_2 hx420_3 hx421_0 hx421_1 hx421_2 hx421_3 hHeld ⊢
      refine pureZ_ (i := 0) (some 17) #[true, false, false, false, false, false, false, false, false, false] (any_of HT_.out (by kernel_rfl)) ?_
      refine pureZ_ (i := 1) (some 18) #[true, true, false, false, false, false, false, false, false, false] (any_of HT_.out (by kernel_rfl)) ?_
      refine pureZ_ (i := 2) (some 19) #[true, true, true, false, false, false, false, false, false, false] (any_of HT_.out (by kernel_rfl)) ?_
      refine pureZ_ (i := 4) (some 21) #[true, true, true, false, true, false, false, false, false, false] (any_of HT_.out (by kernel_rfl)) ?_
      refine pureZ_ (i := 5) (some 22) #[true, true, true, false, true, true, false, false, false, false] (any_of HT_.out (by kernel_rfl)) ?_
      refine pureZ_ (i := 6) (some 23) #[true, true, true, false, true, true, true, false, false, false] (any_of HT_.out (by kernel_rfl)) ?_
      refine takeZ_ (i := 3) (some 20) #[true, true, true, true, true, true, true, false, false, false] (take_ofW HT_.out HW_.out (by kernel_rfl)) hHeld ?_
      refine takeZ_ (i := 7) (some 24) #[true, true, true, true, true, true, true, true, false, false] (take_ofW HT_.out HW_.out (by kernel_rfl)) hHeld ?_
      refine one_ (i := 8) (N := some 25) #[true, true, true, true, true, true, true, true, true, false] rfl rfl (one_of HT_.out (by kernel_rfl)) (by decide) (fun K hK => ?_)
      refine goes_ Try.func92 (by kernel_rfl) rfl #[.agg #[.int .i64 ((rd_T53 l0 x5_1).f0.f0.f0), .int .i64 ((rd_T53 l0 x5_1).f0.f0.f1), .int .i64 ((rd_T53 l0 x5_1).f0.f1), .int .i64 ((rd_T53 l0 x5_1).f1)], .agg #[.int .i64 ((rd_T53 l1 x5_1).f0.f0.f0), .int .i64 ((rd_T53 l1 x5_1).f0.f0.f1), .int .i64 ((rd_T53 l1 x5_1).f0.f1), .int .i64 ((rd_T53 l1 x5_1).f1)]] (by rfl) rfl rfl (by (try simp only [List.map_toArray, List.map_cons, List.map_nil]); first | done | rfl | (simp only [List.length_drop, List.length_take]; rfl)) ?_
      with_reducible refine (laws_eqCost.calls ((rd_T53 l0 x5_1).f0.f0.f0) ((rd_T53 l0 x5_1).f0.f0.f1) ((rd_T53 l0 x5_1).f0.f1) ((rd_T53 l0 x5_1).f1) ((rd_T53 l1 x5_1).f0.f0.f0) ((rd_T53 l1 x5_1).f0.f0.f1) ((rd_T53 l1 x5_1).f0.f1) ((rd_T53 l1 x5_1).f1) true _ A7.out).mono ?_
      rintro e w10 ⟨rfl, hb⟩
      refine ⟨_, rfl, ?_⟩
      replace HB := hbs_ hb
      (try clear hb)
      (try clear hb2)
      (try clear hk)
      (try clear hi)
      refine hK.out _ _ ⟨(cb_ HB hw420_0 :), (cb_ HB hw420_1 :), (cb_ HB hw420_2 :), (cb_ HB hw420_3 :), (cb_ HB hw421_0 :), (cb_ HB hw421_1 :), (cb_ HB hw421_2 :), (cb_ HB hw421_3 :)⟩ (fun hHeld => ?_)
      clear hK K
      refine norm_ (a' := ?_) ?_ ?_
      rotate_left
      ·show Act.put _ (some 25) _ = _
       simp only [Act.put, List.setIfInBounds_toArray, List.set_cons_zero, List.set_cons_succ, i64_w, i32_w]
       rfl
      refine pureZ_ (i := 9) (some 26) #[true, true, true, true, true, true, true, true, true, true] (any_of HT_.out (by kernel_rfl)) ?_
      refine done_ (done_of HT_.out (by kernel_rfl)) ?_
      try go_wp2
      go_roundg k1
      case measure => have := HK1.out; omega
      case rel => exact ⟨(wrap64 (x5_1 + 1)), rf_, H', ⟨by have := HK1.out; omega⟩, ⟨bl_⟩⟩
     ·replace c8 := Bool.eq_false_iff.mpr c8
      subst c8
      replace H := ite_f_ H
      obtain rfl := Option.some.inj H
      try go_wp2
      replace HB := Aside0.mk (below_drew1 HB.out)
      have p420 : 0 ≤ (x5_1 : Int) := od_
      have q420 : x5_1 < (l0.length : Int) := od_
      obtain ⟨ad420, e420, hx420_0, hx420_1, hx420_2, hx420_3⟩ := at_T53 HR0.out x5_1 p420 q420
      have hw420_3 := hx420_3
      have hw420_2 := hx420_2
      have hw420_1 := hx420_1
      have hw420_0 := hx420_0
      cases e420
      replace hx420_0 := cb_ HB hx420_0
      replace hx420_1 := cb_ HB hx420_1
      replace hx420_2 := cb_ HB hx420_2
      replace hx420_3 := cb_ HB hx420_3
      replace p420 := eq_true p420
      replace q420 := eq_true q420
      have p421 : 0 ≤ (x5_1 : Int) := od_
      have q421 : x5_1 < (l1.length : Int) := od_
      obtain ⟨ad421, e421, hx421_0, hx421_1, hx421_2, hx421_3⟩ := at_T53 HR1.out x5_1 p421 q421
      have hw421_3 := hx421_3
      have hw421_2 := hx421_2
      have hw421_1 := hx421_1
      have hw421_0 := hx421_0
      cases e421
      replace hx421_0 := cb_ HB hx421_0
      replace hx421_1 := cb_ HB hx421_1
      replace hx421_2 := cb_ HB hx421_2
      replace hx421_3 := cb_ HB hx421_3
      replace p421 := eq_true p421
      replace q421 := eq_true q421
      refine start_ (n := 10) (S := fun w' => w'.cell? (ad420.add ((x5_1).toNat * 4)) = some (.int .i64 ((rd_T53 l0 x5_1).f0.f0.f0)) ∧ w'.cell? ⟨(ad420.add ((x5_1).toNat * 4)).block, (ad420.add ((x5_1).toNat * 4)).off + 1, none⟩ = some (.int .i64 ((rd_T53 l0 x5_1).f0.f0.f1)) ∧ w'.cell? ⟨(ad420.add ((x5_1).toNat * 4)).block, (ad420.add ((x5_1).toNat * 4)).off + 2, none⟩ = some (.int .i64 ((rd_T53 l0 x5_1).f0.f1)) ∧ w'.cell? ⟨(ad420.add ((x5_1).toNat * 4)).block, (ad420.add ((x5_1).toNat * 4)).off + 3, none⟩ = some (.int .i64 ((rd_T53 l0 x5_1).f1)) ∧ w'.cell? (ad421.add ((x5_1).toNat * 4)) = some (.int .i64 ((rd_T53 l1 x5_1).f0.f0.f0)) ∧ w'.cell? ⟨(ad421.add ((x5_1).toNat * 4)).block, (ad421.add ((x5_1).toNat * 4)).off + 1, none⟩ = some (.int .i64 ((rd_T53 l1 x5_1).f0.f0.f1)) ∧ w'.cell? ⟨(ad421.add ((x5_1).toNat * 4)).block, (ad421.add ((x5_1).toNat * 4)).off + 2, none⟩ = some (.int .i64 ((rd_T53 l1 x5_1).f0.f1)) ∧ w'.cell? ⟨(ad421.add ((x5_1).toNat * 4)).block, (ad421.add ((x5_1).toNat * 4)).off + 3, none⟩ = some (.int .i64 ((rd_T53 l1 x5_1).f1))) (ds := []) #[false, false, false, false, false, false, false, false, false, false] (by kernel_rfl) rfl rfl ⟨(cb_ HB hw420_0 :), (cb_ HB hw420_1 :), (cb_ HB hw420_2 :), (cb_ HB hw420_3 :), (cb_ HB hw421_0 :), (cb_ HB hw421_1 :), (cb_ HB hw421_2 :), (cb_ HB hw421_3 :)⟩ (fun hHeld => ?_); refine with_tabW laws_eqCostS.tab6 laws_eqCostS.bits6 (fun HT_ HW_ => ?_)
      generalize wr.drew = w11 at HB hx420_0 hx420_1 hx420_2 hx420_3 hx421_0 hx421_1 hx421_2 hx421_3 hHeld ⊢
      refine pureZ_ (i := 0) (some 17) #[true, false, false, false, false, false, false, false, false, false] (any_of HT_.out (by kernel_rfl)) ?_
      refine pureZ_ (i := 1) (some 18) #[true, true, false, false, false, false, false, false, false, false] (any_of HT_.out (by kernel_rfl)) ?_
      refine pureZ_ (i := 2) (some 19) #[true, true, true, false, false, false, false, false, false, false] (any_of HT_.out (by kernel_rfl)) ?_
      refine pureZ_ (i := 4) (some 21) #[true, true, true, false, true, false, false, false, false, false] (any_of HT_.out (by kernel_rfl)) ?_
      refine pureZ_ (i := 5) (some 22) #[true, true, true, false, true, true, false, false, false, false] (any_of HT_.out (by kernel_rfl)) ?_
      refine pureZ_ (i := 6) (some 23) #[true, true, true, false, true, true, true, false, false, false] (any_of HT_.out (by kernel_rfl)) ?_
      refine takeZ_ (i := 3) (some 20) #[true, true, true, true, true, true, true, false, false, false] (take_ofW HT_.out HW_.out (by kernel_rfl)) hHeld ?_
      refine takeZ_ (i := 7) (some 24) #[true, true, true, true, true, true, true, true, false, false] (take_ofW HT_.out HW_.out (by kernel_rfl)) hHeld ?_
      refine one_ (i := 8) (N := some 25) #[true, true, true, true, true, true, true, true, true, false] rfl rfl (one_of HT_.out (by kernel_rfl)) (by decide) (fun K hK => ?_)
      refine goes_ Try.func92 (by kernel_rfl) rfl #[.agg #[.int .i64 ((rd_T53 l0 x5_1).f0.f0.f0), .int .i64 ((rd_T53 l0 x5_1).f0.f0.f1), .int .i64 ((rd_T53 l0 x5_1).f0.f1), .int .i64 ((rd_T53 l0 x5_1).f1)], .agg #[.int .i64 ((rd_T53 l1 x5_1).f0.f0.f0), .int .i64 ((rd_T53 l1 x5_1).f0.f0.f1), .int .i64 ((rd_T53 l1 x5_1).f0.f1), .int .i64 ((rd_T53 l1 x5_1).f1)]] (by rfl) rfl rfl (by (try simp only [List.map_toArray, List.map_cons, List.map_nil]); first | done | rfl | (simp only [List.length_drop, List.length_take]; rfl)) ?_
      with_reducible refine (laws_eqCost.calls ((rd_T53 l0 x5_1).f0.f0.f0) ((rd_T53 l0 x5_1).f0.f0.f1) ((rd_T53 l0 x5_1).f0.f1) ((rd_T53 l0 x5_1).f1) ((rd_T53 l1 x5_1).f0.f0.f0) ((rd_T53 l1 x5_1).f0.f0.f1) ((rd_T53 l1 x5_1).f0.f1) ((rd_T53 l1 x5_1).f1) false _ A7.out).mono ?_
      rintro e w12 ⟨rfl, hb⟩
      refine ⟨_, rfl, ?_⟩
      replace HB := hbs_ hb
      (try clear hb)
      (try clear hb2)
      (try clear hk)
      (try clear hi)
      refine hK.out _ _ ⟨(cb_ HB hw420_0 :), (cb_ HB hw420_1 :), (cb_ HB hw420_2 :), (cb_ HB hw420_3 :), (cb_ HB hw421_0 :), (cb_ HB hw421_1 :), (cb_ HB hw421_2 :), (cb_ HB hw421_3 :)⟩ (fun hHeld => ?_)
      clear hK K
      refine norm_ (a' := ?_) ?_ ?_
      rotate_left
      ·show Act.put _ (some 25) _ = _
       simp only [Act.put, List.setIfInBounds_toArray, List.set_cons_zero, List.set_cons_succ, i64_w, i32_w]
       rfl
      refine pureZ_ (i := 9) (some 26) #[true, true, true, true, true, true, true, true, true, true] (any_of HT_.out (by kernel_rfl)) ?_
      refine done_ (done_of HT_.out (by kernel_rfl)) ?_
      try go_wp2
      go_ret
      exact ⟨eq_, bl_⟩
    ·rw [if_neg c4] at H
     have c4b0 : decide (x5_1 < (l0.length : Int)) = false := decide_eq_false c4
     clear c4
     obtain rfl := Option.some.inj H
     go_wp2
     go_ret
     exact ⟨eq_, bl_⟩
 ·rw [if_neg c3] at H
  have c3b0 : ((l0.length : Int) == (l1.length : Int)) = false := beq_eq_false_iff_ne.mpr c3
  have c3b1 : ((l0.length : Int) != (l1.length : Int)) = true := bne_iff_ne.mpr c3
  have c3b2 : (l0.length == l1.length) = false := by first | simpa using c3 | (simp at c3 ⊢; omega)
  obtain rfl := Option.some.inj H
  go_enter Try.func24, Try.ntmps24
  go_wp2
  go_ret
  exact ⟨eq_, bl_⟩
def laws_eqCred.f (a0_0 : Int) (a0_1 : Int) (a0_2 : Int) (a0_3 : Int) (a0_4 : Int) (a0_5 : Int) (a0_6 : Int) (a0_7 : Int) (a0_8 : Int) (a0_9 : Int) (a1_0 : Int) (a1_1 : Int) (a1_2 : Int) (a1_3 : Int) (a1_4 : Int) (a1_5 : Int) (a1_6 : Int) (a1_7 : Int) (a1_8 : Int) (a1_9 : Int) : Option (Bool) := if a0_0 = a1_0 then ((laws_eqRole.f a0_1 a0_2 a1_1 a1_2).bind fun t425 => (if t425 = true then (if a0_3 = a1_3 then ((laws_eqRole.f a0_4 a0_5 a1_4 a1_5).bind fun t426 => (if t426 = true then ((laws_eqRole.f a0_6 a0_7 a1_6 a1_7).bind fun t427 => (if t427 = true then (if a0_8 = a1_8 then (if a0_9 = a1_9 then (some true) else (some false)) else (some false)) else (some false))) else (some false))) else (some false)) else (some false))) else (some false)
set_option maxHeartbeats 8000000 in
set_option maxRecDepth 100000 in
theorem laws_eqCred.calls (a0_0 : Int) (a0_1 : Int) (a0_2 : Int) (a0_3 : Int) (a0_4 : Int) (a0_5 : Int) (a0_6 : Int) (a0_7 : Int) (a0_8 : Int) (a0_9 : Int) (a1_0 : Int) (a1_1 : Int) (a1_2 : Int) (a1_3 : Int) (a1_4 : Int) (a1_5 : Int) (a1_6 : Int) (a1_7 : Int) (a1_8 : Int) (a1_9 : Int) (r : Bool) (w : World) (h : laws_eqCred.f a0_0 a0_1 a0_2 a0_3 a0_4 a0_5 a0_6 a0_7 a0_8 a0_9 a1_0 a1_1 a1_2 a1_3 a1_4 a1_5 a1_6 a1_7 a1_8 a1_9 = some r) :
  Calls Try.prog 93 #[.agg #[.int .i64 a0_0, .int .i64 a0_1, .int .i64 a0_2, .int .i64 a0_3, .int .i64 a0_4, .int .i64 a0_5, .int .i64 a0_6, .int .i64 a0_7, .int .i64 a0_8, .int .i64 a0_9], .agg #[.int .i64 a1_0, .int .i64 a1_1, .int .i64 a1_2, .int .i64 a1_3, .int .i64 a1_4, .int .i64 a1_5, .int .i64 a1_6, .int .i64 a1_7, .int .i64 a1_8, .int .i64 a1_9]] w fun e w' => e = .returned (.bool r) ∧ Below w.heap.size w w' := by
 have hu56 := Try.underlying56
 have hu49 := Try.underlying49
 have HB := Aside0.mk (Below.refl w.heap.size w)
 have H : (if a0_0 = a1_0 then ((laws_eqRole.f a0_1 a0_2 a1_1 a1_2).bind fun t425 => (if t425 = true then (if a0_3 = a1_3 then ((laws_eqRole.f a0_4 a0_5 a1_4 a1_5).bind fun t426 => (if t426 = true then ((laws_eqRole.f a0_6 a0_7 a1_6 a1_7).bind fun t427 => (if t427 = true then (if a0_8 = a1_8 then (if a0_9 = a1_9 then (some true) else (some false)) else (some false)) else (some false))) else (some false))) else (some false)) else (some false))) else (some false)) = some r := h
 clear h
 by_cases c3 : a0_0 = a1_0
 ·rw [if_pos c3] at H
  have c3b0 : (a0_0 == a1_0) = true := beq_iff_eq.mpr c3
  have c3b1 : (a0_0 != a1_0) = false := bne_eq_false_iff_eq.mpr c3
  clear c3
  obtain ⟨t425, A4, H⟩ := bindE_ H
  by_cases c5 : t425 = true
  ·subst c5
   replace H := ite_t_ H
   by_cases c6 : a0_3 = a1_3
   ·rw [if_pos c6] at H
    have c6b0 : (a0_3 == a1_3) = true := beq_iff_eq.mpr c6
    have c6b1 : (a0_3 != a1_3) = false := bne_eq_false_iff_eq.mpr c6
    clear c6
    obtain ⟨t426, A7, H⟩ := bindE_ H
    by_cases c8 : t426 = true
    ·subst c8
     replace H := ite_t_ H
     obtain ⟨t427, A9, H⟩ := bindE_ H
     by_cases c10 : t427 = true
     ·subst c10
      replace H := ite_t_ H
      by_cases c11 : a0_8 = a1_8
      ·rw [if_pos c11] at H
       have c11b0 : (a0_8 == a1_8) = true := beq_iff_eq.mpr c11
       have c11b1 : (a0_8 != a1_8) = false := bne_eq_false_iff_eq.mpr c11
       clear c11
       by_cases c12 : a0_9 = a1_9
       ·rw [if_pos c12] at H
        have c12b0 : (a0_9 == a1_9) = true := beq_iff_eq.mpr c12
        have c12b1 : (a0_9 != a1_9) = false := bne_eq_false_iff_eq.mpr c12
        clear c12
        obtain rfl := Option.some.inj H
        go_enter Try.func93, Try.ntmps93
        go_wp2_with (first | ((with_reducible refine gate_dst (N := 2) rfl ?_); refine box_event ?hg (N := 2) ?hd (cs := #[.int .i64 a0_0, .int .i64 a0_1, .int .i64 a0_2, .int .i64 a0_3, .int .i64 a0_4, .int .i64 a0_5, .int .i64 a0_6, .int .i64 a0_7, .int .i64 a0_8, .int .i64 a0_9]) (t := 56) ?hr ?_; (case hd => rfl); (case hg => rfl); (case hr => first | (go_simp; done) | (go_simp; rfl)); intro gb423 hg w13 hbox hb; have BK423 := Aside0.mk (hbox); have GW423 := gs_ hg; have GE423 := gs_ hg; replace HB := hbs_ hb; clear hb hbox hg) | ((with_reducible refine gate_dst (N := 3) rfl ?_); refine box_event ?hg (N := 3) ?hd (cs := #[.int .i64 a1_0, .int .i64 a1_1, .int .i64 a1_2, .int .i64 a1_3, .int .i64 a1_4, .int .i64 a1_5, .int .i64 a1_6, .int .i64 a1_7, .int .i64 a1_8, .int .i64 a1_9]) (t := 56) ?hr ?_; (case hd => rfl); (case hg => rfl); (case hr => first | (go_simp; done) | (go_simp; rfl)); intro gb424 hg w14 hbox hb; have BK424 := Aside0.mk (hbox); have GW424 := gs_ hg; have GE424 := gs_ hg; replace HB := hbs_ hb; have NB423_424 := nl_ hg BK423; have NB424_423 := nr_ hg BK423; replace BK423 := bkb_ BK423 hb; clear hb hbox hg; have hnb15 := NB423_424.out; have hnc15 := NB424_423.out; have hcz16 := blk_cell BK423.out; have hfz16 := blk_frozen BK423.out; have hcz17 := blk_cell BK424.out; have hfz17 := blk_frozen BK424.out) | ((with_reducible refine gate_callee (f := 137) rfl ?_); refine goesC_ (some 14) Try.func137 #[.agg #[.int .i64 a0_1, .int .i64 a0_2], .agg #[.int .i64 a1_1, .int .i64 a1_2]] ?_; (with_reducible refine (laws_eqRole.calls a0_1 a0_2 a1_1 a1_2 true _ A4.out).mono ?_); rintro e w18 ⟨rfl, hb⟩; refine ⟨_, rfl, ?_⟩; replace BK423 := bkb_ BK423 hb; replace BK424 := bkb_ BK424 hb; replace HB := hbs_ hb; clear hb; have hcz19 := blk_cell BK423.out; have hfz19 := blk_frozen BK423.out; have hcz20 := blk_cell BK424.out; have hfz20 := blk_frozen BK424.out) | ((with_reducible refine gate_callee (f := 137) rfl ?_); refine goesC_ (some 25) Try.func137 #[.agg #[.int .i64 a0_4, .int .i64 a0_5], .agg #[.int .i64 a1_4, .int .i64 a1_5]] ?_; (with_reducible refine (laws_eqRole.calls a0_4 a0_5 a1_4 a1_5 true _ A7.out).mono ?_); rintro e w21 ⟨rfl, hb⟩; refine ⟨_, rfl, ?_⟩; replace BK423 := bkb_ BK423 hb; replace BK424 := bkb_ BK424 hb; replace HB := hbs_ hb; clear hb; have hcz22 := blk_cell BK423.out; have hfz22 := blk_frozen BK423.out; have hcz23 := blk_cell BK424.out; have hfz23 := blk_frozen BK424.out) | ((with_reducible refine gate_callee (f := 137) rfl ?_); refine goesC_ (some 31) Try.func137 #[.agg #[.int .i64 a0_6, .int .i64 a0_7], .agg #[.int .i64 a1_6, .int .i64 a1_7]] ?_; (with_reducible refine (laws_eqRole.calls a0_6 a0_7 a1_6 a1_7 true _ A9.out).mono ?_); rintro e w24 ⟨rfl, hb⟩; refine ⟨_, rfl, ?_⟩; replace BK423 := bkb_ BK423 hb; replace BK424 := bkb_ BK424 hb; replace HB := hbs_ hb; clear hb; have hcz25 := blk_cell BK423.out; have hfz25 := blk_frozen BK423.out; have hcz26 := blk_cell BK424.out; have hfz26 := blk_frozen BK424.out))
        go_ret
        exact ⟨eq_, bl_⟩
       ·rw [if_neg c12] at H
        have c12b0 : (a0_9 == a1_9) = false := beq_eq_false_iff_ne.mpr c12
        have c12b1 : (a0_9 != a1_9) = true := bne_iff_ne.mpr c12
        obtain rfl := Option.some.inj H
        go_enter Try.func93, Try.ntmps93
        go_wp2_with (first | ((with_reducible refine gate_dst (N := 2) rfl ?_); refine box_event ?hg (N := 2) ?hd (cs := #[.int .i64 a0_0, .int .i64 a0_1, .int .i64 a0_2, .int .i64 a0_3, .int .i64 a0_4, .int .i64 a0_5, .int .i64 a0_6, .int .i64 a0_7, .int .i64 a0_8, .int .i64 a0_9]) (t := 56) ?hr ?_; (case hd => rfl); (case hg => rfl); (case hr => first | (go_simp; done) | (go_simp; rfl)); intro gb423 hg w27 hbox hb; have BK423 := Aside0.mk (hbox); have GW423 := gs_ hg; have GE423 := gs_ hg; replace HB := hbs_ hb; clear hb hbox hg) | ((with_reducible refine gate_dst (N := 3) rfl ?_); refine box_event ?hg (N := 3) ?hd (cs := #[.int .i64 a1_0, .int .i64 a1_1, .int .i64 a1_2, .int .i64 a1_3, .int .i64 a1_4, .int .i64 a1_5, .int .i64 a1_6, .int .i64 a1_7, .int .i64 a1_8, .int .i64 a1_9]) (t := 56) ?hr ?_; (case hd => rfl); (case hg => rfl); (case hr => first | (go_simp; done) | (go_simp; rfl)); intro gb424 hg w28 hbox hb; have BK424 := Aside0.mk (hbox); have GW424 := gs_ hg; have GE424 := gs_ hg; replace HB := hbs_ hb; have NB423_424 := nl_ hg BK423; have NB424_423 := nr_ hg BK423; replace BK423 := bkb_ BK423 hb; clear hb hbox hg; have hnb29 := NB423_424.out; have hnc29 := NB424_423.out; have hcz30 := blk_cell BK423.out; have hfz30 := blk_frozen BK423.out; have hcz31 := blk_cell BK424.out; have hfz31 := blk_frozen BK424.out) | ((with_reducible refine gate_callee (f := 137) rfl ?_); refine goesC_ (some 14) Try.func137 #[.agg #[.int .i64 a0_1, .int .i64 a0_2], .agg #[.int .i64 a1_1, .int .i64 a1_2]] ?_; (with_reducible refine (laws_eqRole.calls a0_1 a0_2 a1_1 a1_2 true _ A4.out).mono ?_); rintro e w32 ⟨rfl, hb⟩; refine ⟨_, rfl, ?_⟩; replace BK423 := bkb_ BK423 hb; replace BK424 := bkb_ BK424 hb; replace HB := hbs_ hb; clear hb; have hcz33 := blk_cell BK423.out; have hfz33 := blk_frozen BK423.out; have hcz34 := blk_cell BK424.out; have hfz34 := blk_frozen BK424.out) | ((with_reducible refine gate_callee (f := 137) rfl ?_); refine goesC_ (some 25) Try.func137 #[.agg #[.int .i64 a0_4, .int .i64 a0_5], .agg #[.int .i64 a1_4, .int .i64 a1_5]] ?_; (with_reducible refine (laws_eqRole.calls a0_4 a0_5 a1_4 a1_5 true _ A7.out).mono ?_); rintro e w35 ⟨rfl, hb⟩; refine ⟨_, rfl, ?_⟩; replace BK423 := bkb_ BK423 hb; replace BK424 := bkb_ BK424 hb; replace HB := hbs_ hb; clear hb; have hcz36 := blk_cell BK423.out; have hfz36 := blk_frozen BK423.out; have hcz37 := blk_cell BK424.out; have hfz37 := blk_frozen BK424.out) | ((with_reducible refine gate_callee (f := 137) rfl ?_); refine goesC_ (some 31) Try.func137 #[.agg #[.int .i64 a0_6, .int .i64 a0_7], .agg #[.int .i64 a1_6, .int .i64 a1_7]] ?_; (with_reducible refine (laws_eqRole.calls a0_6 a0_7 a1_6 a1_7 true _ A9.out).mono ?_); rintro e w38 ⟨rfl, hb⟩; refine ⟨_, rfl, ?_⟩; replace BK423 := bkb_ BK423 hb; replace BK424 := bkb_ BK424 hb; replace HB := hbs_ hb; clear hb; have hcz39 := blk_cell BK423.out; have hfz39 := blk_frozen BK423.out; have hcz40 := blk_cell BK424.out; have hfz40 := blk_frozen BK424.out))
        go_ret
        exact ⟨eq_, bl_⟩
      ·rw [if_neg c11] at H
       have c11b0 : (a0_8 == a1_8) = false := beq_eq_false_iff_ne.mpr c11
       have c11b1 : (a0_8 != a1_8) = true := bne_iff_ne.mpr c11
       obtain rfl := Option.some.inj H
       go_enter Try.func93, Try.ntmps93
       go_wp2_with (first | ((with_reducible refine gate_dst (N := 2) rfl ?_); refine box_event ?hg (N := 2) ?hd (cs := #[.int .i64 a0_0, .int .i64 a0_1, .int .i64 a0_2, .int .i64 a0_3, .int .i64 a0_4, .int .i64 a0_5, .int .i64 a0_6, .int .i64 a0_7, .int .i64 a0_8, .int .i64 a0_9]) (t := 56) ?hr ?_; (case hd => rfl); (case hg => rfl); (case hr => first | (go_simp; done) | (go_simp; rfl)); intro gb423 hg w41 hbox hb; have BK423 := Aside0.mk (hbox); have GW423 := gs_ hg; have GE423 := gs_ hg; replace HB := hbs_ hb; clear hb hbox hg) | ((with_reducible refine gate_dst (N := 3) rfl ?_); refine box_event ?hg (N := 3) ?hd (cs := #[.int .i64 a1_0, .int .i64 a1_1, .int .i64 a1_2, .int .i64 a1_3, .int .i64 a1_4, .int .i64 a1_5, .int .i64 a1_6, .int .i64 a1_7, .int .i64 a1_8, .int .i64 a1_9]) (t := 56) ?hr ?_; (case hd => rfl); (case hg => rfl); (case hr => first | (go_simp; done) | (go_simp; rfl)); intro gb424 hg w42 hbox hb; have BK424 := Aside0.mk (hbox); have GW424 := gs_ hg; have GE424 := gs_ hg; replace HB := hbs_ hb; have NB423_424 := nl_ hg BK423; have NB424_423 := nr_ hg BK423; replace BK423 := bkb_ BK423 hb; clear hb hbox hg; have hnb43 := NB423_424.out; have hnc43 := NB424_423.out; have hcz44 := blk_cell BK423.out; have hfz44 := blk_frozen BK423.out; have hcz45 := blk_cell BK424.out; have hfz45 := blk_frozen BK424.out) | ((with_reducible refine gate_callee (f := 137) rfl ?_); refine goesC_ (some 14) Try.func137 #[.agg #[.int .i64 a0_1, .int .i64 a0_2], .agg #[.int .i64 a1_1, .int .i64 a1_2]] ?_; (with_reducible refine (laws_eqRole.calls a0_1 a0_2 a1_1 a1_2 true _ A4.out).mono ?_); rintro e w46 ⟨rfl, hb⟩; refine ⟨_, rfl, ?_⟩; replace BK423 := bkb_ BK423 hb; replace BK424 := bkb_ BK424 hb; replace HB := hbs_ hb; clear hb; have hcz47 := blk_cell BK423.out; have hfz47 := blk_frozen BK423.out; have hcz48 := blk_cell BK424.out; have hfz48 := blk_frozen BK424.out) | ((with_reducible refine gate_callee (f := 137) rfl ?_); refine goesC_ (some 25) Try.func137 #[.agg #[.int .i64 a0_4, .int .i64 a0_5], .agg #[.int .i64 a1_4, .int .i64 a1_5]] ?_; (with_reducible refine (laws_eqRole.calls a0_4 a0_5 a1_4 a1_5 true _ A7.out).mono ?_); rintro e w49 ⟨rfl, hb⟩; refine ⟨_, rfl, ?_⟩; replace BK423 := bkb_ BK423 hb; replace BK424 := bkb_ BK424 hb; replace HB := hbs_ hb; clear hb; have hcz50 := blk_cell BK423.out; have hfz50 := blk_frozen BK423.out; have hcz51 := blk_cell BK424.out; have hfz51 := blk_frozen BK424.out) | ((with_reducible refine gate_callee (f := 137) rfl ?_); refine goesC_ (some 31) Try.func137 #[.agg #[.int .i64 a0_6, .int .i64 a0_7], .agg #[.int .i64 a1_6, .int .i64 a1_7]] ?_; (with_reducible refine (laws_eqRole.calls a0_6 a0_7 a1_6 a1_7 true _ A9.out).mono ?_); rintro e w52 ⟨rfl, hb⟩; refine ⟨_, rfl, ?_⟩; replace BK423 := bkb_ BK423 hb; replace BK424 := bkb_ BK424 hb; replace HB := hbs_ hb; clear hb; have hcz53 := blk_cell BK423.out; have hfz53 := blk_frozen BK423.out; have hcz54 := blk_cell BK424.out; have hfz54 := blk_frozen BK424.out))
       go_ret
       exact ⟨eq_, bl_⟩
     ·replace c10 := Bool.eq_false_iff.mpr c10
      subst c10
      replace H := ite_f_ H
      obtain rfl := Option.some.inj H
      go_enter Try.func93, Try.ntmps93
      go_wp2_with (first | ((with_reducible refine gate_dst (N := 2) rfl ?_); refine box_event ?hg (N := 2) ?hd (cs := #[.int .i64 a0_0, .int .i64 a0_1, .int .i64 a0_2, .int .i64 a0_3, .int .i64 a0_4, .int .i64 a0_5, .int .i64 a0_6, .int .i64 a0_7, .int .i64 a0_8, .int .i64 a0_9]) (t := 56) ?hr ?_; (case hd => rfl); (case hg => rfl); (case hr => first | (go_simp; done) | (go_simp; rfl)); intro gb423 hg w55 hbox hb; have BK423 := Aside0.mk (hbox); have GW423 := gs_ hg; have GE423 := gs_ hg; replace HB := hbs_ hb; clear hb hbox hg) | ((with_reducible refine gate_dst (N := 3) rfl ?_); refine box_event ?hg (N := 3) ?hd (cs := #[.int .i64 a1_0, .int .i64 a1_1, .int .i64 a1_2, .int .i64 a1_3, .int .i64 a1_4, .int .i64 a1_5, .int .i64 a1_6, .int .i64 a1_7, .int .i64 a1_8, .int .i64 a1_9]) (t := 56) ?hr ?_; (case hd => rfl); (case hg => rfl); (case hr => first | (go_simp; done) | (go_simp; rfl)); intro gb424 hg w56 hbox hb; have BK424 := Aside0.mk (hbox); have GW424 := gs_ hg; have GE424 := gs_ hg; replace HB := hbs_ hb; have NB423_424 := nl_ hg BK423; have NB424_423 := nr_ hg BK423; replace BK423 := bkb_ BK423 hb; clear hb hbox hg; have hnb57 := NB423_424.out; have hnc57 := NB424_423.out; have hcz58 := blk_cell BK423.out; have hfz58 := blk_frozen BK423.out; have hcz59 := blk_cell BK424.out; have hfz59 := blk_frozen BK424.out) | ((with_reducible refine gate_callee (f := 137) rfl ?_); refine goesC_ (some 14) Try.func137 #[.agg #[.int .i64 a0_1, .int .i64 a0_2], .agg #[.int .i64 a1_1, .int .i64 a1_2]] ?_; (with_reducible refine (laws_eqRole.calls a0_1 a0_2 a1_1 a1_2 true _ A4.out).mono ?_); rintro e w60 ⟨rfl, hb⟩; refine ⟨_, rfl, ?_⟩; replace BK423 := bkb_ BK423 hb; replace BK424 := bkb_ BK424 hb; replace HB := hbs_ hb; clear hb; have hcz61 := blk_cell BK423.out; have hfz61 := blk_frozen BK423.out; have hcz62 := blk_cell BK424.out; have hfz62 := blk_frozen BK424.out) | ((with_reducible refine gate_callee (f := 137) rfl ?_); refine goesC_ (some 25) Try.func137 #[.agg #[.int .i64 a0_4, .int .i64 a0_5], .agg #[.int .i64 a1_4, .int .i64 a1_5]] ?_; (with_reducible refine (laws_eqRole.calls a0_4 a0_5 a1_4 a1_5 true _ A7.out).mono ?_); rintro e w63 ⟨rfl, hb⟩; refine ⟨_, rfl, ?_⟩; replace BK423 := bkb_ BK423 hb; replace BK424 := bkb_ BK424 hb; replace HB := hbs_ hb; clear hb; have hcz64 := blk_cell BK423.out; have hfz64 := blk_frozen BK423.out; have hcz65 := blk_cell BK424.out; have hfz65 := blk_frozen BK424.out) | ((with_reducible refine gate_callee (f := 137) rfl ?_); refine goesC_ (some 31) Try.func137 #[.agg #[.int .i64 a0_6, .int .i64 a0_7], .agg #[.int .i64 a1_6, .int .i64 a1_7]] ?_; (with_reducible refine (laws_eqRole.calls a0_6 a0_7 a1_6 a1_7 false _ A9.out).mono ?_); rintro e w66 ⟨rfl, hb⟩; refine ⟨_, rfl, ?_⟩; replace BK423 := bkb_ BK423 hb; replace BK424 := bkb_ BK424 hb; replace HB := hbs_ hb; clear hb))
      go_ret
      exact ⟨eq_, bl_⟩
    ·replace c8 := Bool.eq_false_iff.mpr c8
     subst c8
     replace H := ite_f_ H
     obtain rfl := Option.some.inj H
     go_enter Try.func93, Try.ntmps93
     go_wp2_with (first | ((with_reducible refine gate_dst (N := 2) rfl ?_); refine box_event ?hg (N := 2) ?hd (cs := #[.int .i64 a0_0, .int .i64 a0_1, .int .i64 a0_2, .int .i64 a0_3, .int .i64 a0_4, .int .i64 a0_5, .int .i64 a0_6, .int .i64 a0_7, .int .i64 a0_8, .int .i64 a0_9]) (t := 56) ?hr ?_; (case hd => rfl); (case hg => rfl); (case hr => first | (go_simp; done) | (go_simp; rfl)); intro gb423 hg w67 hbox hb; have BK423 := Aside0.mk (hbox); have GW423 := gs_ hg; have GE423 := gs_ hg; replace HB := hbs_ hb; clear hb hbox hg) | ((with_reducible refine gate_dst (N := 3) rfl ?_); refine box_event ?hg (N := 3) ?hd (cs := #[.int .i64 a1_0, .int .i64 a1_1, .int .i64 a1_2, .int .i64 a1_3, .int .i64 a1_4, .int .i64 a1_5, .int .i64 a1_6, .int .i64 a1_7, .int .i64 a1_8, .int .i64 a1_9]) (t := 56) ?hr ?_; (case hd => rfl); (case hg => rfl); (case hr => first | (go_simp; done) | (go_simp; rfl)); intro gb424 hg w68 hbox hb; have BK424 := Aside0.mk (hbox); have GW424 := gs_ hg; have GE424 := gs_ hg; replace HB := hbs_ hb; have NB423_424 := nl_ hg BK423; have NB424_423 := nr_ hg BK423; replace BK423 := bkb_ BK423 hb; clear hb hbox hg; have hnb69 := NB423_424.out; have hnc69 := NB424_423.out; have hcz70 := blk_cell BK423.out; have hfz70 := blk_frozen BK423.out; have hcz71 := blk_cell BK424.out; have hfz71 := blk_frozen BK424.out) | ((with_reducible refine gate_callee (f := 137) rfl ?_); refine goesC_ (some 14) Try.func137 #[.agg #[.int .i64 a0_1, .int .i64 a0_2], .agg #[.int .i64 a1_1, .int .i64 a1_2]] ?_; (with_reducible refine (laws_eqRole.calls a0_1 a0_2 a1_1 a1_2 true _ A4.out).mono ?_); rintro e w72 ⟨rfl, hb⟩; refine ⟨_, rfl, ?_⟩; replace BK423 := bkb_ BK423 hb; replace BK424 := bkb_ BK424 hb; replace HB := hbs_ hb; clear hb; have hcz73 := blk_cell BK423.out; have hfz73 := blk_frozen BK423.out; have hcz74 := blk_cell BK424.out; have hfz74 := blk_frozen BK424.out) | ((with_reducible refine gate_callee (f := 137) rfl ?_); refine goesC_ (some 25) Try.func137 #[.agg #[.int .i64 a0_4, .int .i64 a0_5], .agg #[.int .i64 a1_4, .int .i64 a1_5]] ?_; (with_reducible refine (laws_eqRole.calls a0_4 a0_5 a1_4 a1_5 false _ A7.out).mono ?_); rintro e w75 ⟨rfl, hb⟩; refine ⟨_, rfl, ?_⟩; replace BK423 := bkb_ BK423 hb; replace BK424 := bkb_ BK424 hb; replace HB := hbs_ hb; clear hb))
     go_ret
     exact ⟨eq_, bl_⟩
   ·rw [if_neg c6] at H
    have c6b0 : (a0_3 == a1_3) = false := beq_eq_false_iff_ne.mpr c6
    have c6b1 : (a0_3 != a1_3) = true := bne_iff_ne.mpr c6
    obtain rfl := Option.some.inj H
    go_enter Try.func93, Try.ntmps93
    go_wp2_with (first | ((with_reducible refine gate_dst (N := 2) rfl ?_); refine box_event ?hg (N := 2) ?hd (cs := #[.int .i64 a0_0, .int .i64 a0_1, .int .i64 a0_2, .int .i64 a0_3, .int .i64 a0_4, .int .i64 a0_5, .int .i64 a0_6, .int .i64 a0_7, .int .i64 a0_8, .int .i64 a0_9]) (t := 56) ?hr ?_; (case hd => rfl); (case hg => rfl); (case hr => first | (go_simp; done) | (go_simp; rfl)); intro gb423 hg w76 hbox hb; have BK423 := Aside0.mk (hbox); have GW423 := gs_ hg; have GE423 := gs_ hg; replace HB := hbs_ hb; clear hb hbox hg) | ((with_reducible refine gate_dst (N := 3) rfl ?_); refine box_event ?hg (N := 3) ?hd (cs := #[.int .i64 a1_0, .int .i64 a1_1, .int .i64 a1_2, .int .i64 a1_3, .int .i64 a1_4, .int .i64 a1_5, .int .i64 a1_6, .int .i64 a1_7, .int .i64 a1_8, .int .i64 a1_9]) (t := 56) ?hr ?_; (case hd => rfl); (case hg => rfl); (case hr => first | (go_simp; done) | (go_simp; rfl)); intro gb424 hg w77 hbox hb; have BK424 := Aside0.mk (hbox); have GW424 := gs_ hg; have GE424 := gs_ hg; replace HB := hbs_ hb; have NB423_424 := nl_ hg BK423; have NB424_423 := nr_ hg BK423; replace BK423 := bkb_ BK423 hb; clear hb hbox hg; have hnb78 := NB423_424.out; have hnc78 := NB424_423.out; have hcz79 := blk_cell BK423.out; have hfz79 := blk_frozen BK423.out; have hcz80 := blk_cell BK424.out; have hfz80 := blk_frozen BK424.out) | ((with_reducible refine gate_callee (f := 137) rfl ?_); refine goesC_ (some 14) Try.func137 #[.agg #[.int .i64 a0_1, .int .i64 a0_2], .agg #[.int .i64 a1_1, .int .i64 a1_2]] ?_; (with_reducible refine (laws_eqRole.calls a0_1 a0_2 a1_1 a1_2 true _ A4.out).mono ?_); rintro e w81 ⟨rfl, hb⟩; refine ⟨_, rfl, ?_⟩; replace BK423 := bkb_ BK423 hb; replace BK424 := bkb_ BK424 hb; replace HB := hbs_ hb; clear hb; have hcz82 := blk_cell BK423.out; have hfz82 := blk_frozen BK423.out; have hcz83 := blk_cell BK424.out; have hfz83 := blk_frozen BK424.out))
    go_ret
    exact ⟨eq_, bl_⟩
  ·replace c5 := Bool.eq_false_iff.mpr c5
   subst c5
   replace H := ite_f_ H
   obtain rfl := Option.some.inj H
   go_enter Try.func93, Try.ntmps93
   go_wp2_with (first | ((with_reducible refine gate_dst (N := 2) rfl ?_); refine box_event ?hg (N := 2) ?hd (cs := #[.int .i64 a0_0, .int .i64 a0_1, .int .i64 a0_2, .int .i64 a0_3, .int .i64 a0_4, .int .i64 a0_5, .int .i64 a0_6, .int .i64 a0_7, .int .i64 a0_8, .int .i64 a0_9]) (t := 56) ?hr ?_; (case hd => rfl); (case hg => rfl); (case hr => first | (go_simp; done) | (go_simp; rfl)); intro gb423 hg w84 hbox hb; have BK423 := Aside0.mk (hbox); have GW423 := gs_ hg; have GE423 := gs_ hg; replace HB := hbs_ hb; clear hb hbox hg) | ((with_reducible refine gate_dst (N := 3) rfl ?_); refine box_event ?hg (N := 3) ?hd (cs := #[.int .i64 a1_0, .int .i64 a1_1, .int .i64 a1_2, .int .i64 a1_3, .int .i64 a1_4, .int .i64 a1_5, .int .i64 a1_6, .int .i64 a1_7, .int .i64 a1_8, .int .i64 a1_9]) (t := 56) ?hr ?_; (case hd => rfl); (case hg => rfl); (case hr => first | (go_simp; done) | (go_simp; rfl)); intro gb424 hg w85 hbox hb; have BK424 := Aside0.mk (hbox); have GW424 := gs_ hg; have GE424 := gs_ hg; replace HB := hbs_ hb; have NB423_424 := nl_ hg BK423; have NB424_423 := nr_ hg BK423; replace BK423 := bkb_ BK423 hb; clear hb hbox hg; have hnb86 := NB423_424.out; have hnc86 := NB424_423.out; have hcz87 := blk_cell BK423.out; have hfz87 := blk_frozen BK423.out; have hcz88 := blk_cell BK424.out; have hfz88 := blk_frozen BK424.out) | ((with_reducible refine gate_callee (f := 137) rfl ?_); refine goesC_ (some 14) Try.func137 #[.agg #[.int .i64 a0_1, .int .i64 a0_2], .agg #[.int .i64 a1_1, .int .i64 a1_2]] ?_; (with_reducible refine (laws_eqRole.calls a0_1 a0_2 a1_1 a1_2 false _ A4.out).mono ?_); rintro e w89 ⟨rfl, hb⟩; refine ⟨_, rfl, ?_⟩; replace BK423 := bkb_ BK423 hb; replace BK424 := bkb_ BK424 hb; replace HB := hbs_ hb; clear hb))
   go_ret
   exact ⟨eq_, bl_⟩
 ·rw [if_neg c3] at H
  have c3b0 : (a0_0 == a1_0) = false := beq_eq_false_iff_ne.mpr c3
  have c3b1 : (a0_0 != a1_0) = true := bne_iff_ne.mpr c3
  obtain rfl := Option.some.inj H
  go_enter Try.func93, Try.ntmps93
  go_wp2_with (first | ((with_reducible refine gate_dst (N := 2) rfl ?_); refine box_event ?hg (N := 2) ?hd (cs := #[.int .i64 a0_0, .int .i64 a0_1, .int .i64 a0_2, .int .i64 a0_3, .int .i64 a0_4, .int .i64 a0_5, .int .i64 a0_6, .int .i64 a0_7, .int .i64 a0_8, .int .i64 a0_9]) (t := 56) ?hr ?_; (case hd => rfl); (case hg => rfl); (case hr => first | (go_simp; done) | (go_simp; rfl)); intro gb423 hg w90 hbox hb; have BK423 := Aside0.mk (hbox); have GW423 := gs_ hg; have GE423 := gs_ hg; replace HB := hbs_ hb; clear hb hbox hg) | ((with_reducible refine gate_dst (N := 3) rfl ?_); refine box_event ?hg (N := 3) ?hd (cs := #[.int .i64 a1_0, .int .i64 a1_1, .int .i64 a1_2, .int .i64 a1_3, .int .i64 a1_4, .int .i64 a1_5, .int .i64 a1_6, .int .i64 a1_7, .int .i64 a1_8, .int .i64 a1_9]) (t := 56) ?hr ?_; (case hd => rfl); (case hg => rfl); (case hr => first | (go_simp; done) | (go_simp; rfl)); intro gb424 hg w91 hbox hb; have BK424 := Aside0.mk (hbox); have GW424 := gs_ hg; have GE424 := gs_ hg; replace HB := hbs_ hb; have NB423_424 := nl_ hg BK423; have NB424_423 := nr_ hg BK423; replace BK423 := bkb_ BK423 hb; clear hb hbox hg; have hnb92 := NB423_424.out; have hnc92 := NB424_423.out; have hcz93 := blk_cell BK423.out; have hfz93 := blk_frozen BK423.out; have hcz94 := blk_cell BK424.out; have hfz94 := blk_frozen BK424.out))
  go_ret
  exact ⟨eq_, bl_⟩
end Go.Proofs.Ytjpjidgfcljpcaa.PC
