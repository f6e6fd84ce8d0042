import Derived.Test.YtjpjidgfcljpcaaKEPAx9
-- printed by wip/tools
namespace Go.Proofs.Ytjpjidgfcljpcaa.PA
open Go.RowKit Go.Proofs.YtjpjidgfcljpcaaW.PrintWords Go.Proofs.YtjpjidgfcljpcaaW.PrintLast Go.Proofs.YtjpjidgfcljpcaaW.PrintMore
attribute [local go_sem] max2_int min2_int max_two min_two max_three min_three max_four min_four
set_option linter.unusedVariables false
set_option linter.unusedSimpArgs false
attribute [local go_sem high] eqA49 eqA51
def spec_CredOk.j0 : Nat → Bool → Int → Int → Int → Int → Int → Int → Int → Int → Int → Int → Option (Bool)
 | 0, _, _, _, _, _, _, _, _, _, _, _ => none
 | k + 1, x19, x317000, x317001, x317002, x317003, x317004, x317005, x317006, x317007, x317008, x317009 => if x19 = true then (some false) else (if x317000 = 1 then ((spec_l01In.f x317003 0 5).bind fun t321 => (if t321 = true then (if (x317004 == 0 && (x317005 == 0)) = true then (some (x317006 == 0 && (x317007 == 0))) else (some false)) else (some false))) else (if x317000 = 2 then (if x317003 = 0 then ((spec_RoleOk.f x317004 x317005).bind fun t322 => (if t322 = true then (some (x317006 == 0 && (x317007 == 0))) else (some false))) else (some false)) else (if x317000 = 3 then (if x317003 = 0 then ((spec_RoleOk.f x317004 x317005).bind fun t323 => (if t323 = true then ((spec_RoleOk.f x317006 x317007).bind fun t324 => (if t324 = true then (some (x317006 == 0)) else (some false))) else (some false))) else (some false)) else (if x317000 = 4 then (if x317003 = 0 then ((spec_RoleOk.f x317004 x317005).bind fun t325 => (if t325 = true then ((spec_RoleOk.f x317006 x317007).bind fun t326 => (some t326)) else (some false))) else (some false)) else (some false)))))
def spec_CredOk.f (k : Nat) (a0_0 : Int) (a0_1 : Int) (a0_2 : Int) (a0_3 : Int) (a0_4 : Int) (a0_5 : Int) (a0_6 : Int) (a0_7 : Int) (a0_8 : Int) (a0_9 : Int) : Option (Bool) := (spec_RoleOk.f a0_1 a0_2).bind fun t317 => (if t317 = true then ((spec_l01In.f a0_8 1 9999).bind fun t318 => (if t318 = true then ((spec_l01In.f a0_9 0 99).bind fun t319 => (spec_CredOk.j0 k (!t319) a0_0 a0_1 a0_2 a0_3 a0_4 a0_5 a0_6 a0_7 a0_8 a0_9)) else (spec_CredOk.j0 k true a0_0 a0_1 a0_2 a0_3 a0_4 a0_5 a0_6 a0_7 a0_8 a0_9))) else (spec_CredOk.j0 k true a0_0 a0_1 a0_2 a0_3 a0_4 a0_5 a0_6 a0_7 a0_8 a0_9))
set_option maxHeartbeats 8000000 in
set_option maxRecDepth 100000 in
theorem spec_CredOk.calls (k : Nat) (a0_0 : Int) (a0_1 : Int) (a0_2 : Int) (a0_3 : Int) (a0_4 : Int) (a0_5 : Int) (a0_6 : Int) (a0_7 : Int) (a0_8 : Int) (a0_9 : Int) (r : Bool) (w : World) (h : spec_CredOk.f k a0_0 a0_1 a0_2 a0_3 a0_4 a0_5 a0_6 a0_7 a0_8 a0_9 = some r) :
  Calls Try.prog 94 #[.agg #[.int .i64 a0_0, .int .i64 a0_1, .int .i64 a0_2, .int .i64 a0_3, .int .i64 a0_4, .int .i64 a0_5, .int .i64 a0_6, .int .i64 a0_7, .int .i64 a0_8, .int .i64 a0_9]] w fun e w' => e = .returned (.bool r) ∧ Below w.heap.size w w' := by
 have hu56 := Try.underlying56
 have hu49 := Try.underlying49
 have HB := Aside0.mk (Below.refl w.heap.size w)
 have H : ((spec_RoleOk.f a0_1 a0_2).bind fun t317 => (if t317 = true then ((spec_l01In.f a0_8 1 9999).bind fun t318 => (if t318 = true then ((spec_l01In.f a0_9 0 99).bind fun t319 => (spec_CredOk.j0 k (!t319) a0_0 a0_1 a0_2 a0_3 a0_4 a0_5 a0_6 a0_7 a0_8 a0_9)) else (spec_CredOk.j0 k true a0_0 a0_1 a0_2 a0_3 a0_4 a0_5 a0_6 a0_7 a0_8 a0_9))) else (spec_CredOk.j0 k true a0_0 a0_1 a0_2 a0_3 a0_4 a0_5 a0_6 a0_7 a0_8 a0_9))) = some r := h
 clear h
 have HC2 := Aside0.mk H
 clear H
 go_enter Try.func94, Try.ntmps94
 go_upto_region 1 with (first | ((with_reducible refine gate_dst (N := 1) rfl ?_); refine box_event ?hg (N := 1) ?hd (cs := #[.int .i64 a0_0, .int .i64 a0_1, .int .i64 a0_2, .int .i64 a0_3, .int .i64 a0_4, .int .i64 a0_5, .int .i64 a0_6, .int .i64 a0_7, .int .i64 a0_8, .int .i64 a0_9]) (t := 56) ?hr ?_; (case hd => rfl); (case hg => rfl); (case hr => first | (go_simp; done) | (go_simp; rfl)); intro gb316 hg w3 hbox hb; have BK316 := Aside0.mk (hbox); have GW316 := gs_ hg; have GE316 := gs_ hg; replace HB := hbs_ hb; clear hb hbox hg))
 (try simp only [Act.put, List.setIfInBounds_toArray, List.set_cons_zero, List.set_cons_succ])
 go_cut [19] (fun v19 wc => ∃ (kq : Nat) (x19_1 : Bool), v19 = .bool x19_1 ∧ Aside0 (spec_CredOk.j0 kq x19_1 a0_0 a0_1 a0_2 a0_3 a0_4 a0_5 a0_6 a0_7 a0_8 a0_9 = some r) ∧ Aside0 (kq ≤ k) ∧ Aside0 (wc.heap[gb316]? = some (.cells #[.int .i64 a0_0, .int .i64 a0_1, .int .i64 a0_2, .int .i64 a0_3, .int .i64 a0_4, .int .i64 a0_5, .int .i64 a0_6, .int .i64 a0_7, .int .i64 a0_8, .int .i64 a0_9] 56 (0, 0))) ∧ Aside0 (Below w.heap.size w wc))
 case first =>
  have H := HC2.out
  clear HC2
  obtain ⟨t317, A4, H⟩ := bindE_ H
  by_cases c5 : t317 = true
  ·subst c5
   replace H := ite_t_ H
   obtain ⟨t318, A6, H⟩ := bindE_ H
   by_cases c7 : t318 = true
   ·subst c7
    replace H := ite_t_ H
    obtain ⟨t319, A8, H⟩ := bindE_ H
    have H' := Aside0.mk H
    clear H
    have hcz9 := blk_cell BK316.out
    have hfz9 := blk_frozen BK316.out
    go_wp2_with (first | ((with_reducible refine gate_callee (f := 123) rfl ?_); refine goesC_ (some 6) Try.func123 #[.agg #[.int .i64 a0_1, .int .i64 a0_2]] ?_; (with_reducible refine (spec_RoleOk.calls a0_1 a0_2 true _ A4.out).mono ?_); rintro e w10 ⟨rfl, hb⟩; refine ⟨_, rfl, ?_⟩; replace BK316 := bkb_ BK316 hb; replace HB := hbs_ hb; clear hb; have hcz11 := blk_cell BK316.out; have hfz11 := blk_frozen BK316.out) | (go_at_call 107; (with_reducible refine (spec_l01In.calls a0_8 1 9999 true _ A6.out).mono ?_); rintro e w' ⟨rfl, ⟨nd, rfl⟩⟩) | (go_at_call 107; (with_reducible refine (spec_l01In.calls a0_9 0 99 t319 _ A8.out).mono ?_); rintro e w' ⟨rfl, ⟨nd, rfl⟩⟩))
    go_meet
    case rel => exact ⟨_, (!t319), rf_, H', ⟨by first | omega | exact Nat.le_refl _⟩, ⟨bk_ BK316⟩, ⟨bl_⟩⟩
   ·replace c7 := Bool.eq_false_iff.mpr c7
    subst c7
    replace H := ite_f_ H
    have H' := Aside0.mk H
    clear H
    have hcz12 := blk_cell BK316.out
    have hfz12 := blk_frozen BK316.out
    go_wp2_with (first | ((with_reducible refine gate_callee (f := 123) rfl ?_); refine goesC_ (some 6) Try.func123 #[.agg #[.int .i64 a0_1, .int .i64 a0_2]] ?_; (with_reducible refine (spec_RoleOk.calls a0_1 a0_2 true _ A4.out).mono ?_); rintro e w13 ⟨rfl, hb⟩; refine ⟨_, rfl, ?_⟩; replace BK316 := bkb_ BK316 hb; replace HB := hbs_ hb; clear hb; have hcz14 := blk_cell BK316.out; have hfz14 := blk_frozen BK316.out) | (go_at_call 107; (with_reducible refine (spec_l01In.calls a0_8 1 9999 false _ A6.out).mono ?_); rintro e w' ⟨rfl, ⟨nd, rfl⟩⟩))
    go_meet
    case rel => exact ⟨_, (true), rf_, H', ⟨by first | omega | exact Nat.le_refl _⟩, ⟨bk_ BK316⟩, ⟨bl_⟩⟩
  ·replace c5 := Bool.eq_false_iff.mpr c5
   subst c5
   replace H := ite_f_ H
   have H' := Aside0.mk H
   clear H
   have hcz15 := blk_cell BK316.out
   have hfz15 := blk_frozen BK316.out
   go_wp2_with (first | ((with_reducible refine gate_callee (f := 123) rfl ?_); refine goesC_ (some 6) Try.func123 #[.agg #[.int .i64 a0_1, .int .i64 a0_2]] ?_; (with_reducible refine (spec_RoleOk.calls a0_1 a0_2 false _ A4.out).mono ?_); rintro e w16 ⟨rfl, hb⟩; refine ⟨_, rfl, ?_⟩; replace BK316 := bkb_ BK316 hb; replace HB := hbs_ hb; clear hb))
   go_meet
   case rel => exact ⟨_, (true), rf_, H', ⟨by first | omega | exact Nat.le_refl _⟩, ⟨bk_ BK316⟩, ⟨bl_⟩⟩
 case rest =>
  clear HC2
  try clear c1
  try clear p2
  try clear c5
  try clear c7
  try clear c9
  try clear c12
  try clear hcz11
  try clear hcz12
  try clear hcz14
  try clear hcz15
  try clear hcz9
  try clear hfz11
  try clear hfz12
  try clear hfz14
  try clear hfz15
  try clear hfz9
  obtain ⟨kq, x19_1, rfl, HA, HJ1, BK316, HB⟩ := hcut
  cases kq with
  | zero => exact absurd HA.out (by simp [spec_CredOk.j0])
  | succ kj1 =>
   have H := HA.out
   clear HA
   simp only [spec_CredOk.j0] at H
   by_cases c17 : x19_1 = true
   ·subst c17
    replace H := ite_t_ H
    obtain rfl := Option.some.inj H
    go_wp2
    go_ret
    exact ⟨eq_, bl_⟩
   ·replace c17 := Bool.eq_false_iff.mpr c17
    subst c17
    replace H := ite_f_ H
    by_cases c18 : a0_0 = 1
    ·rw [if_pos c18] at H
     have c18b0 : (a0_0 == 1) = true := beq_iff_eq.mpr c18
     have c18b1 : (a0_0 != 1) = false := bne_eq_false_iff_eq.mpr c18
     clear c18
     obtain ⟨t321, A19, H⟩ := bindE_ H
     by_cases c20 : t321 = true
     ·subst c20
      replace H := ite_t_ H
      by_cases c21 : (a0_4 == 0 && (a0_5 == 0)) = true
      ·rw [if_pos c21] at H
       have c21b0 : (a0_4 == 0 && (a0_5 == 0)) = true := c21
       (try (have c21b1 : decide (a0_4 = 0 && (a0_5 == 0)) = true := by simpa using c21))
       (try (have c21b2 : (a0_4 == 0 && (a0_5 == 0)) = true := by simpa using c21))
       clear c21
       obtain rfl := Option.some.inj H
       go_wp2_with (first | ((with_reducible refine gate_dst (N := 3) rfl ?_); refine box_event ?hg (N := 3) ?hd (cs := #[.int .i64 0, .int .i64 0]) (t := 49) ?hr ?_; (case hd => rfl); (case hg => rfl); (case hr => first | (go_simp; done) | (go_simp; rfl)); intro gb320 hg w22 hbox hb; have BK320 := Aside0.mk (hbox); have GW320 := gs_ hg; have GE320 := gs_ hg; replace HB := hbs_ hb; have NB316_320 := nl_ hg BK316; have NB320_316 := nr_ hg BK316; replace BK316 := bkb_ BK316 hb; clear hb hbox hg; have hnb23 := NB320_316.out; have hnc23 := NB316_320.out; have hcz24 := blk_cell BK320.out; have hfz24 := blk_frozen BK320.out; have hcz25 := blk_cell BK316.out; have hfz25 := blk_frozen BK316.out) | ((with_reducible refine gate_callee (f := 107) rfl ?_); refine goesC_ (some 27) Try.func107 #[.int .i64 a0_3, .int .i64 0, .int .i64 5] ?_; (with_reducible refine (spec_l01In.calls a0_3 0 5 true _ A19.out).mono ?_); rintro e w' ⟨rfl, ⟨nd, rfl⟩⟩; refine ⟨_, rfl, ?_⟩))
       go_ret
       exact ⟨eq_, bl_⟩
      ·rw [if_neg c21] at H
       have c21b0 : (a0_4 == 0 && (a0_5 == 0)) = false := by simpa using c21
       (try (have c21b1 : decide (a0_4 = 0 && (a0_5 == 0)) = false := by simpa using c21))
       (try (have c21b2 : (a0_4 == 0 && (a0_5 == 0)) = false := by simpa using c21))
       (try (have c21b3 : ¬ (a0_4 = 0 && (a0_5 == 0)) := by simpa using c21))
       clear c21
       obtain rfl := Option.some.inj H
       go_wp2_with (first | ((with_reducible refine gate_dst (N := 3) rfl ?_); refine box_event ?hg (N := 3) ?hd (cs := #[.int .i64 0, .int .i64 0]) (t := 49) ?hr ?_; (case hd => rfl); (case hg => rfl); (case hr => first | (go_simp; done) | (go_simp; rfl)); intro gb320 hg w26 hbox hb; have BK320 := Aside0.mk (hbox); have GW320 := gs_ hg; have GE320 := gs_ hg; replace HB := hbs_ hb; have NB316_320 := nl_ hg BK316; have NB320_316 := nr_ hg BK316; replace BK316 := bkb_ BK316 hb; clear hb hbox hg; have hnb27 := NB320_316.out; have hnc27 := NB316_320.out; have hcz28 := blk_cell BK320.out; have hfz28 := blk_frozen BK320.out; have hcz29 := blk_cell BK316.out; have hfz29 := blk_frozen BK316.out) | ((with_reducible refine gate_callee (f := 107) rfl ?_); refine goesC_ (some 27) Try.func107 #[.int .i64 a0_3, .int .i64 0, .int .i64 5] ?_; (with_reducible refine (spec_l01In.calls a0_3 0 5 true _ A19.out).mono ?_); rintro e w' ⟨rfl, ⟨nd, rfl⟩⟩; refine ⟨_, rfl, ?_⟩))
       go_ret
       exact ⟨eq_, bl_⟩
     ·replace c20 := Bool.eq_false_iff.mpr c20
      subst c20
      replace H := ite_f_ H
      obtain rfl := Option.some.inj H
      go_wp2_with (first | ((with_reducible refine gate_dst (N := 3) rfl ?_); refine box_event ?hg (N := 3) ?hd (cs := #[.int .i64 0, .int .i64 0]) (t := 49) ?hr ?_; (case hd => rfl); (case hg => rfl); (case hr => first | (go_simp; done) | (go_simp; rfl)); intro gb320 hg w30 hbox hb; have BK320 := Aside0.mk (hbox); have GW320 := gs_ hg; have GE320 := gs_ hg; replace HB := hbs_ hb; have NB316_320 := nl_ hg BK316; have NB320_316 := nr_ hg BK316; replace BK316 := bkb_ BK316 hb; clear hb hbox hg; have hnb31 := NB320_316.out; have hnc31 := NB316_320.out; have hcz32 := blk_cell BK320.out; have hfz32 := blk_frozen BK320.out; have hcz33 := blk_cell BK316.out; have hfz33 := blk_frozen BK316.out) | ((with_reducible refine gate_callee (f := 107) rfl ?_); refine goesC_ (some 27) Try.func107 #[.int .i64 a0_3, .int .i64 0, .int .i64 5] ?_; (with_reducible refine (spec_l01In.calls a0_3 0 5 false _ A19.out).mono ?_); rintro e w' ⟨rfl, ⟨nd, rfl⟩⟩; refine ⟨_, rfl, ?_⟩))
      go_ret
      exact ⟨eq_, bl_⟩
    ·rw [if_neg c18] at H
     have c18b0 : (a0_0 == 1) = false := beq_eq_false_iff_ne.mpr c18
     have c18b1 : (a0_0 != 1) = true := bne_iff_ne.mpr c18
     by_cases c34 : a0_0 = 2
     ·rw [if_pos c34] at H
      have c34b0 : (a0_0 == 2) = true := beq_iff_eq.mpr c34
      have c34b1 : (a0_0 != 2) = false := bne_eq_false_iff_eq.mpr c34
      clear c34
      by_cases c35 : a0_3 = 0
      ·rw [if_pos c35] at H
       have c35b0 : (a0_3 == 0) = true := beq_iff_eq.mpr c35
       have c35b1 : (a0_3 != 0) = false := bne_eq_false_iff_eq.mpr c35
       clear c35
       obtain ⟨t322, A36, H⟩ := bindE_ H
       by_cases c37 : t322 = true
       ·subst c37
        replace H := ite_t_ H
        obtain rfl := Option.some.inj H
        go_wp2_with (first | ((with_reducible refine gate_dst (N := 3) rfl ?_); refine box_event ?hg (N := 3) ?hd (cs := #[.int .i64 0, .int .i64 0]) (t := 49) ?hr ?_; (case hd => rfl); (case hg => rfl); (case hr => first | (go_simp; done) | (go_simp; rfl)); intro gb320 hg w38 hbox hb; have BK320 := Aside0.mk (hbox); have GW320 := gs_ hg; have GE320 := gs_ hg; replace HB := hbs_ hb; have NB316_320 := nl_ hg BK316; have NB320_316 := nr_ hg BK316; replace BK316 := bkb_ BK316 hb; clear hb hbox hg; have hnb39 := NB320_316.out; have hnc39 := NB316_320.out; have hcz40 := blk_cell BK320.out; have hfz40 := blk_frozen BK320.out; have hcz41 := blk_cell BK316.out; have hfz41 := blk_frozen BK316.out) | (go_at_call 123; (with_reducible refine (spec_RoleOk.calls a0_4 a0_5 true _ A36.out).mono ?_); rintro e w42 ⟨rfl, hb⟩; replace BK316 := Aside0.mk (blk_below (g := gb316) (o := .cells #[.int .i64 a0_0, .int .i64 a0_1, .int .i64 a0_2, .int .i64 a0_3, .int .i64 a0_4, .int .i64 a0_5, .int .i64 a0_6, .int .i64 a0_7, .int .i64 a0_8, .int .i64 a0_9] 56 (0, 0)) (bk_ BK316) hb); replace BK320 := Aside0.mk (blk_below (g := gb320) (o := .cells #[.int .i64 0, .int .i64 0] 49 (0, 0)) (bk_ BK320) hb); replace HB := hbs_ hb; clear hb; have hcz43 := blk_cell BK316.out; have hfz43 := blk_frozen BK316.out; have hcz44 := blk_cell BK320.out; have hfz44 := blk_frozen BK320.out))
        go_ret
        exact ⟨eq_, bl_⟩
       ·replace c37 := Bool.eq_false_iff.mpr c37
        subst c37
        replace H := ite_f_ H
        obtain rfl := Option.some.inj H
        go_wp2_with (first | ((with_reducible refine gate_dst (N := 3) rfl ?_); refine box_event ?hg (N := 3) ?hd (cs := #[.int .i64 0, .int .i64 0]) (t := 49) ?hr ?_; (case hd => rfl); (case hg => rfl); (case hr => first | (go_simp; done) | (go_simp; rfl)); intro gb320 hg w45 hbox hb; have BK320 := Aside0.mk (hbox); have GW320 := gs_ hg; have GE320 := gs_ hg; replace HB := hbs_ hb; have NB316_320 := nl_ hg BK316; have NB320_316 := nr_ hg BK316; replace BK316 := bkb_ BK316 hb; clear hb hbox hg; have hnb46 := NB320_316.out; have hnc46 := NB316_320.out; have hcz47 := blk_cell BK320.out; have hfz47 := blk_frozen BK320.out; have hcz48 := blk_cell BK316.out; have hfz48 := blk_frozen BK316.out) | (go_at_call 123; (with_reducible refine (spec_RoleOk.calls a0_4 a0_5 false _ A36.out).mono ?_); rintro e w49 ⟨rfl, hb⟩; replace BK316 := Aside0.mk (blk_below (g := gb316) (o := .cells #[.int .i64 a0_0, .int .i64 a0_1, .int .i64 a0_2, .int .i64 a0_3, .int .i64 a0_4, .int .i64 a0_5, .int .i64 a0_6, .int .i64 a0_7, .int .i64 a0_8, .int .i64 a0_9] 56 (0, 0)) (bk_ BK316) hb); replace BK320 := Aside0.mk (blk_below (g := gb320) (o := .cells #[.int .i64 0, .int .i64 0] 49 (0, 0)) (bk_ BK320) hb); replace HB := hbs_ hb; clear hb))
        go_ret
        exact ⟨eq_, bl_⟩
      ·rw [if_neg c35] at H
       have c35b0 : (a0_3 == 0) = false := beq_eq_false_iff_ne.mpr c35
       have c35b1 : (a0_3 != 0) = true := bne_iff_ne.mpr c35
       obtain rfl := Option.some.inj H
       go_wp2_with (first | ((with_reducible refine gate_dst (N := 3) rfl ?_); refine box_event ?hg (N := 3) ?hd (cs := #[.int .i64 0, .int .i64 0]) (t := 49) ?hr ?_; (case hd => rfl); (case hg => rfl); (case hr => first | (go_simp; done) | (go_simp; rfl)); intro gb320 hg w50 hbox hb; have BK320 := Aside0.mk (hbox); have GW320 := gs_ hg; have GE320 := gs_ hg; replace HB := hbs_ hb; have NB316_320 := nl_ hg BK316; have NB320_316 := nr_ hg BK316; replace BK316 := bkb_ BK316 hb; clear hb hbox hg; have hnb51 := NB320_316.out; have hnc51 := NB316_320.out; have hcz52 := blk_cell BK320.out; have hfz52 := blk_frozen BK320.out; have hcz53 := blk_cell BK316.out; have hfz53 := blk_frozen BK316.out))
       go_ret
       exact ⟨eq_, bl_⟩
     ·rw [if_neg c34] at H
      have c34b0 : (a0_0 == 2) = false := beq_eq_false_iff_ne.mpr c34
      have c34b1 : (a0_0 != 2) = true := bne_iff_ne.mpr c34
      by_cases c54 : a0_0 = 3
      ·rw [if_pos c54] at H
       have c54b0 : (a0_0 == 3) = true := beq_iff_eq.mpr c54
       have c54b1 : (a0_0 != 3) = false := bne_eq_false_iff_eq.mpr c54
       clear c54
       by_cases c55 : a0_3 = 0
       ·rw [if_pos c55] at H
        have c55b0 : (a0_3 == 0) = true := beq_iff_eq.mpr c55
        have c55b1 : (a0_3 != 0) = false := bne_eq_false_iff_eq.mpr c55
        clear c55
        obtain ⟨t323, A56, H⟩ := bindE_ H
        by_cases c57 : t323 = true
        ·subst c57
         replace H := ite_t_ H
         obtain ⟨t324, A58, H⟩ := bindE_ H
         by_cases c59 : t324 = true
         ·subst c59
          replace H := ite_t_ H
          obtain rfl := Option.some.inj H
          go_wp2_with (first | ((with_reducible refine gate_dst (N := 3) rfl ?_); refine box_event ?hg (N := 3) ?hd (cs := #[.int .i64 0, .int .i64 0]) (t := 49) ?hr ?_; (case hd => rfl); (case hg => rfl); (case hr => first | (go_simp; done) | (go_simp; rfl)); intro gb320 hg w60 hbox hb; have BK320 := Aside0.mk (hbox); have GW320 := gs_ hg; have GE320 := gs_ hg; replace HB := hbs_ hb; have NB316_320 := nl_ hg BK316; have NB320_316 := nr_ hg BK316; replace BK316 := bkb_ BK316 hb; clear hb hbox hg; have hnb61 := NB320_316.out; have hnc61 := NB316_320.out; have hcz62 := blk_cell BK320.out; have hfz62 := blk_frozen BK320.out; have hcz63 := blk_cell BK316.out; have hfz63 := blk_frozen BK316.out) | (go_at_call 123; (with_reducible refine (spec_RoleOk.calls a0_4 a0_5 true _ A56.out).mono ?_); rintro e w64 ⟨rfl, hb⟩; replace BK316 := Aside0.mk (blk_below (g := gb316) (o := .cells #[.int .i64 a0_0, .int .i64 a0_1, .int .i64 a0_2, .int .i64 a0_3, .int .i64 a0_4, .int .i64 a0_5, .int .i64 a0_6, .int .i64 a0_7, .int .i64 a0_8, .int .i64 a0_9] 56 (0, 0)) (bk_ BK316) hb); replace BK320 := Aside0.mk (blk_below (g := gb320) (o := .cells #[.int .i64 0, .int .i64 0] 49 (0, 0)) (bk_ BK320) hb); replace HB := hbs_ hb; clear hb; have hcz65 := blk_cell BK316.out; have hfz65 := blk_frozen BK316.out) | (go_at_call 123; (with_reducible refine (spec_RoleOk.calls a0_6 a0_7 true _ A58.out).mono ?_); rintro e w66 ⟨rfl, hb⟩; replace BK316 := bkb_ BK316 hb; replace BK320 := bkb_ BK320 hb; replace HB := hbs_ hb; clear hb; have hcz67 := blk_cell BK316.out; have hfz67 := blk_frozen BK316.out))
          go_ret
          exact ⟨eq_, bl_⟩
         ·replace c59 := Bool.eq_false_iff.mpr c59
          subst c59
          replace H := ite_f_ H
          obtain rfl := Option.some.inj H
          go_wp2_with (first | ((with_reducible refine gate_dst (N := 3) rfl ?_); refine box_event ?hg (N := 3) ?hd (cs := #[.int .i64 0, .int .i64 0]) (t := 49) ?hr ?_; (case hd => rfl); (case hg => rfl); (case hr => first | (go_simp; done) | (go_simp; rfl)); intro gb320 hg w68 hbox hb; have BK320 := Aside0.mk (hbox); have GW320 := gs_ hg; have GE320 := gs_ hg; replace HB := hbs_ hb; have NB316_320 := nl_ hg BK316; have NB320_316 := nr_ hg BK316; replace BK316 := bkb_ BK316 hb; clear hb hbox hg; have hnb69 := NB320_316.out; have hnc69 := NB316_320.out; have hcz70 := blk_cell BK320.out; have hfz70 := blk_frozen BK320.out; have hcz71 := blk_cell BK316.out; have hfz71 := blk_frozen BK316.out) | (go_at_call 123; (with_reducible refine (spec_RoleOk.calls a0_4 a0_5 true _ A56.out).mono ?_); rintro e w72 ⟨rfl, hb⟩; replace BK316 := Aside0.mk (blk_below (g := gb316) (o := .cells #[.int .i64 a0_0, .int .i64 a0_1, .int .i64 a0_2, .int .i64 a0_3, .int .i64 a0_4, .int .i64 a0_5, .int .i64 a0_6, .int .i64 a0_7, .int .i64 a0_8, .int .i64 a0_9] 56 (0, 0)) (bk_ BK316) hb); replace BK320 := Aside0.mk (blk_below (g := gb320) (o := .cells #[.int .i64 0, .int .i64 0] 49 (0, 0)) (bk_ BK320) hb); replace HB := hbs_ hb; clear hb; have hcz73 := blk_cell BK316.out; have hfz73 := blk_frozen BK316.out) | (go_at_call 123; (with_reducible refine (spec_RoleOk.calls a0_6 a0_7 false _ A58.out).mono ?_); rintro e w74 ⟨rfl, hb⟩; replace BK316 := bkb_ BK316 hb; replace BK320 := bkb_ BK320 hb; replace HB := hbs_ hb; clear hb))
          go_ret
          exact ⟨eq_, bl_⟩
        ·replace c57 := Bool.eq_false_iff.mpr c57
         subst c57
         replace H := ite_f_ H
         obtain rfl := Option.some.inj H
         go_wp2_with (first | ((with_reducible refine gate_dst (N := 3) rfl ?_); refine box_event ?hg (N := 3) ?hd (cs := #[.int .i64 0, .int .i64 0]) (t := 49) ?hr ?_; (case hd => rfl); (case hg => rfl); (case hr => first | (go_simp; done) | (go_simp; rfl)); intro gb320 hg w75 hbox hb; have BK320 := Aside0.mk (hbox); have GW320 := gs_ hg; have GE320 := gs_ hg; replace HB := hbs_ hb; have NB316_320 := nl_ hg BK316; have NB320_316 := nr_ hg BK316; replace BK316 := bkb_ BK316 hb; clear hb hbox hg; have hnb76 := NB320_316.out; have hnc76 := NB316_320.out; have hcz77 := blk_cell BK320.out; have hfz77 := blk_frozen BK320.out; have hcz78 := blk_cell BK316.out; have hfz78 := blk_frozen BK316.out) | (go_at_call 123; (with_reducible refine (spec_RoleOk.calls a0_4 a0_5 false _ A56.out).mono ?_); rintro e w79 ⟨rfl, hb⟩; replace BK316 := Aside0.mk (blk_below (g := gb316) (o := .cells #[.int .i64 a0_0, .int .i64 a0_1, .int .i64 a0_2, .int .i64 a0_3, .int .i64 a0_4, .int .i64 a0_5, .int .i64 a0_6, .int .i64 a0_7, .int .i64 a0_8, .int .i64 a0_9] 56 (0, 0)) (bk_ BK316) hb); replace BK320 := Aside0.mk (blk_below (g := gb320) (o := .cells #[.int .i64 0, .int .i64 0] 49 (0, 0)) (bk_ BK320) hb); replace HB := hbs_ hb; clear hb))
         go_ret
         exact ⟨eq_, bl_⟩
       ·rw [if_neg c55] at H
        have c55b0 : (a0_3 == 0) = false := beq_eq_false_iff_ne.mpr c55
        have c55b1 : (a0_3 != 0) = true := bne_iff_ne.mpr c55
        obtain rfl := Option.some.inj H
        go_wp2_with (first | ((with_reducible refine gate_dst (N := 3) rfl ?_); refine box_event ?hg (N := 3) ?hd (cs := #[.int .i64 0, .int .i64 0]) (t := 49) ?hr ?_; (case hd => rfl); (case hg => rfl); (case hr => first | (go_simp; done) | (go_simp; rfl)); intro gb320 hg w80 hbox hb; have BK320 := Aside0.mk (hbox); have GW320 := gs_ hg; have GE320 := gs_ hg; replace HB := hbs_ hb; have NB316_320 := nl_ hg BK316; have NB320_316 := nr_ hg BK316; replace BK316 := bkb_ BK316 hb; clear hb hbox hg; have hnb81 := NB320_316.out; have hnc81 := NB316_320.out; have hcz82 := blk_cell BK320.out; have hfz82 := blk_frozen BK320.out; have hcz83 := blk_cell BK316.out; have hfz83 := blk_frozen BK316.out))
        go_ret
        exact ⟨eq_, bl_⟩
      ·rw [if_neg c54] at H
       have c54b0 : (a0_0 == 3) = false := beq_eq_false_iff_ne.mpr c54
       have c54b1 : (a0_0 != 3) = true := bne_iff_ne.mpr c54
       by_cases c84 : a0_0 = 4
       ·rw [if_pos c84] at H
        have c84b0 : (a0_0 == 4) = true := beq_iff_eq.mpr c84
        have c84b1 : (a0_0 != 4) = false := bne_eq_false_iff_eq.mpr c84
        clear c84
        by_cases c85 : a0_3 = 0
        ·rw [if_pos c85] at H
         have c85b0 : (a0_3 == 0) = true := beq_iff_eq.mpr c85
         have c85b1 : (a0_3 != 0) = false := bne_eq_false_iff_eq.mpr c85
         clear c85
         obtain ⟨t325, A86, H⟩ := bindE_ H
         by_cases c87 : t325 = true
         ·subst c87
          replace H := ite_t_ H
          obtain ⟨t326, A88, H⟩ := bindE_ H
          obtain rfl := Option.some.inj H
          go_wp2_with (first | ((with_reducible refine gate_dst (N := 3) rfl ?_); refine box_event ?hg (N := 3) ?hd (cs := #[.int .i64 0, .int .i64 0]) (t := 49) ?hr ?_; (case hd => rfl); (case hg => rfl); (case hr => first | (go_simp; done) | (go_simp; rfl)); intro gb320 hg w89 hbox hb; have BK320 := Aside0.mk (hbox); have GW320 := gs_ hg; have GE320 := gs_ hg; replace HB := hbs_ hb; have NB316_320 := nl_ hg BK316; have NB320_316 := nr_ hg BK316; replace BK316 := bkb_ BK316 hb; clear hb hbox hg; have hnb90 := NB320_316.out; have hnc90 := NB316_320.out; have hcz91 := blk_cell BK320.out; have hfz91 := blk_frozen BK320.out; have hcz92 := blk_cell BK316.out; have hfz92 := blk_frozen BK316.out) | (go_at_call 123; (with_reducible refine (spec_RoleOk.calls a0_4 a0_5 true _ A86.out).mono ?_); rintro e w93 ⟨rfl, hb⟩; replace BK316 := Aside0.mk (blk_below (g := gb316) (o := .cells #[.int .i64 a0_0, .int .i64 a0_1, .int .i64 a0_2, .int .i64 a0_3, .int .i64 a0_4, .int .i64 a0_5, .int .i64 a0_6, .int .i64 a0_7, .int .i64 a0_8, .int .i64 a0_9] 56 (0, 0)) (bk_ BK316) hb); replace BK320 := Aside0.mk (blk_below (g := gb320) (o := .cells #[.int .i64 0, .int .i64 0] 49 (0, 0)) (bk_ BK320) hb); replace HB := hbs_ hb; clear hb; have hcz94 := blk_cell BK316.out; have hfz94 := blk_frozen BK316.out) | (go_at_call 123; (with_reducible refine (spec_RoleOk.calls a0_6 a0_7 t326 _ A88.out).mono ?_); rintro e w95 ⟨rfl, hb⟩; replace BK316 := bkb_ BK316 hb; replace BK320 := bkb_ BK320 hb; replace HB := hbs_ hb; clear hb))
          go_ret
          exact ⟨eq_, bl_⟩
         ·replace c87 := Bool.eq_false_iff.mpr c87
          subst c87
          replace H := ite_f_ H
          obtain rfl := Option.some.inj H
          go_wp2_with (first | ((with_reducible refine gate_dst (N := 3) rfl ?_); refine box_event ?hg (N := 3) ?hd (cs := #[.int .i64 0, .int .i64 0]) (t := 49) ?hr ?_; (case hd => rfl); (case hg => rfl); (case hr => first | (go_simp; done) | (go_simp; rfl)); intro gb320 hg w96 hbox hb; have BK320 := Aside0.mk (hbox); have GW320 := gs_ hg; have GE320 := gs_ hg; replace HB := hbs_ hb; have NB316_320 := nl_ hg BK316; have NB320_316 := nr_ hg BK316; replace BK316 := bkb_ BK316 hb; clear hb hbox hg; have hnb97 := NB320_316.out; have hnc97 := NB316_320.out; have hcz98 := blk_cell BK320.out; have hfz98 := blk_frozen BK320.out; have hcz99 := blk_cell BK316.out; have hfz99 := blk_frozen BK316.out) | (go_at_call 123; (with_reducible refine (spec_RoleOk.calls a0_4 a0_5 false _ A86.out).mono ?_); rintro e w100 ⟨rfl, hb⟩; replace BK316 := Aside0.mk (blk_below (g := gb316) (o := .cells #[.int .i64 a0_0, .int .i64 a0_1, .int .i64 a0_2, .int .i64 a0_3, .int .i64 a0_4, .int .i64 a0_5, .int .i64 a0_6, .int .i64 a0_7, .int .i64 a0_8, .int .i64 a0_9] 56 (0, 0)) (bk_ BK316) hb); replace BK320 := Aside0.mk (blk_below (g := gb320) (o := .cells #[.int .i64 0, .int .i64 0] 49 (0, 0)) (bk_ BK320) hb); replace HB := hbs_ hb; clear hb))
          go_ret
          exact ⟨eq_, bl_⟩
        ·rw [if_neg c85] at H
         have c85b0 : (a0_3 == 0) = false := beq_eq_false_iff_ne.mpr c85
         have c85b1 : (a0_3 != 0) = true := bne_iff_ne.mpr c85
         obtain rfl := Option.some.inj H
         go_wp2_with (first | ((with_reducible refine gate_dst (N := 3) rfl ?_); refine box_event ?hg (N := 3) ?hd (cs := #[.int .i64 0, .int .i64 0]) (t := 49) ?hr ?_; (case hd => rfl); (case hg => rfl); (case hr => first | (go_simp; done) | (go_simp; rfl)); intro gb320 hg w101 hbox hb; have BK320 := Aside0.mk (hbox); have GW320 := gs_ hg; have GE320 := gs_ hg; replace HB := hbs_ hb; have NB316_320 := nl_ hg BK316; have NB320_316 := nr_ hg BK316; replace BK316 := bkb_ BK316 hb; clear hb hbox hg; have hnb102 := NB320_316.out; have hnc102 := NB316_320.out; have hcz103 := blk_cell BK320.out; have hfz103 := blk_frozen BK320.out; have hcz104 := blk_cell BK316.out; have hfz104 := blk_frozen BK316.out))
         go_ret
         exact ⟨eq_, bl_⟩
       ·rw [if_neg c84] at H
        have c84b0 : (a0_0 == 4) = false := beq_eq_false_iff_ne.mpr c84
        have c84b1 : (a0_0 != 4) = true := bne_iff_ne.mpr c84
        obtain rfl := Option.some.inj H
        go_wp2_with (first | ((with_reducible refine gate_dst (N := 3) rfl ?_); refine box_event ?hg (N := 3) ?hd (cs := #[.int .i64 0, .int .i64 0]) (t := 49) ?hr ?_; (case hd => rfl); (case hg => rfl); (case hr => first | (go_simp; done) | (go_simp; rfl)); intro gb320 hg w105 hbox hb; have BK320 := Aside0.mk (hbox); have GW320 := gs_ hg; have GE320 := gs_ hg; replace HB := hbs_ hb; have NB316_320 := nl_ hg BK316; have NB320_316 := nr_ hg BK316; replace BK316 := bkb_ BK316 hb; clear hb hbox hg; have hnb106 := NB320_316.out; have hnc106 := NB316_320.out; have hcz107 := blk_cell BK320.out; have hfz107 := blk_frozen BK320.out; have hcz108 := blk_cell BK316.out; have hfz108 := blk_frozen BK316.out))
        go_ret
        exact ⟨eq_, bl_⟩
end Go.Proofs.Ytjpjidgfcljpcaa.PA
