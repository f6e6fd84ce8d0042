import Derived.Test.YteehgihclnlaoaaKDPAx2
import Derived.Test.YteehgihclnlaoaaKDPAx7
-- printed by wip/tools
namespace Go.Proofs.Yteehgihclnlaoaa.PA
open Go.RowKit Go.Proofs.YteehgihclnlaoaaW.PrintWords Go.Proofs.YteehgihclnlaoaaW.PrintLast Go.Proofs.YteehgihclnlaoaaW.PrintMore
attribute [local go_sem] max2_int min2_int max_two min_two max_three min_three max_four min_four
set_option linter.unusedVariables false
set_option linter.unusedSimpArgs false
attribute [local go_sem high] eqA26 eqA54
def impl_CredOk.j0 : Nat → Bool → Int → Int → Int → Int → Int → Int → Int → Int → Int → Int → Option (Bool)
 | 0, _, _, _, _, _, _, _, _, _, _, _ => none
 | k + 1, x19, x338000, x338001, x338002, x338003, x338004, x338005, x338006, x338007, x338008, x338009 => if x19 = true then (some false) else (if x338000 = 1 then ((impl_isPerson.f x338003).bind fun t342 => (if t342 = true then (if (x338004 == 0 && (x338005 == 0)) = true then (some (x338006 == 0 && (x338007 == 0))) else (some false)) else (some false))) else (if x338000 = 2 then (if x338003 = 0 then ((impl_RoleOk.f x338004 x338005).bind fun t343 => (if t343 = true then (some (x338006 == 0 && (x338007 == 0))) else (some false))) else (some false)) else (if x338000 = 3 then (if x338003 = 0 then ((impl_RoleOk.f x338004 x338005).bind fun t344 => (if t344 = true then ((impl_RoleOk.f x338006 x338007).bind fun t345 => (if t345 = true then (some (x338006 == 0)) else (some false))) else (some false))) else (some false)) else (if x338000 = 4 then (if x338003 = 0 then ((impl_RoleOk.f x338004 x338005).bind fun t346 => (if t346 = true then ((impl_RoleOk.f x338006 x338007).bind fun t347 => (some t347)) else (some false))) else (some false)) else (some false)))))
def impl_CredOk.f (k : Nat) (a0_0 : Int) (a0_1 : Int) (a0_2 : Int) (a0_3 : Int) (a0_4 : Int) (a0_5 : Int) (a0_6 : Int) (a0_7 : Int) (a0_8 : Int) (a0_9 : Int) : Option (Bool) := (impl_RoleOk.f a0_1 a0_2).bind fun t338 => (if t338 = true then ((impl_in.f a0_8 1 9999).bind fun t339 => (if t339 = true then ((impl_in.f a0_9 0 99).bind fun t340 => (impl_CredOk.j0 k (!t340) a0_0 a0_1 a0_2 a0_3 a0_4 a0_5 a0_6 a0_7 a0_8 a0_9)) else (impl_CredOk.j0 k true a0_0 a0_1 a0_2 a0_3 a0_4 a0_5 a0_6 a0_7 a0_8 a0_9))) else (impl_CredOk.j0 k true a0_0 a0_1 a0_2 a0_3 a0_4 a0_5 a0_6 a0_7 a0_8 a0_9))
set_option maxHeartbeats 8000000 in
set_option maxRecDepth 100000 in
theorem impl_CredOk.calls (k : Nat) (a0_0 : Int) (a0_1 : Int) (a0_2 : Int) (a0_3 : Int) (a0_4 : Int) (a0_5 : Int) (a0_6 : Int) (a0_7 : Int) (a0_8 : Int) (a0_9 : Int) (r : Bool) (w : World) (h : impl_CredOk.f k a0_0 a0_1 a0_2 a0_3 a0_4 a0_5 a0_6 a0_7 a0_8 a0_9 = some r) :
  Calls Try.prog 29 #[.agg #[.int .i64 a0_0, .int .i64 a0_1, .int .i64 a0_2, .int .i64 a0_3, .int .i64 a0_4, .int .i64 a0_5, .int .i64 a0_6, .int .i64 a0_7, .int .i64 a0_8, .int .i64 a0_9]] w fun e w' => e = .returned (.bool r) ∧ Below w.heap.size w w' := by
 have hu48 := Try.underlying48
 have hu26 := Try.underlying26
 have HB := Aside0.mk (Below.refl w.heap.size w)
 have H : ((impl_RoleOk.f a0_1 a0_2).bind fun t338 => (if t338 = true then ((impl_in.f a0_8 1 9999).bind fun t339 => (if t339 = true then ((impl_in.f a0_9 0 99).bind fun t340 => (impl_CredOk.j0 k (!t340) a0_0 a0_1 a0_2 a0_3 a0_4 a0_5 a0_6 a0_7 a0_8 a0_9)) else (impl_CredOk.j0 k true a0_0 a0_1 a0_2 a0_3 a0_4 a0_5 a0_6 a0_7 a0_8 a0_9))) else (impl_CredOk.j0 k true a0_0 a0_1 a0_2 a0_3 a0_4 a0_5 a0_6 a0_7 a0_8 a0_9))) = some r := h
 clear h
 have HC2 := Aside0.mk H
 clear H
 go_enter Try.func29, Try.ntmps29
 go_upto_region 1 with (first | ((with_reducible refine gate_dst (N := 1) rfl ?_); refine box_event ?hg (N := 1) ?hd (cs := #[.int .i64 a0_0, .int .i64 a0_1, .int .i64 a0_2, .int .i64 a0_3, .int .i64 a0_4, .int .i64 a0_5, .int .i64 a0_6, .int .i64 a0_7, .int .i64 a0_8, .int .i64 a0_9]) (t := 48) ?hr ?_; (case hd => rfl); (case hg => rfl); (case hr => first | (go_simp; done) | (go_simp; rfl)); intro gb337 hg w3 hbox hb; have BK337 := Aside0.mk (hbox); have GW337 := gs_ hg; have GE337 := gs_ hg; replace HB := hbs_ hb; clear hb hbox hg))
 (try simp only [Act.put, List.setIfInBounds_toArray, List.set_cons_zero, List.set_cons_succ])
 go_cut [19] (fun v19 wc => ∃ (kq : Nat) (x19_1 : Bool), v19 = .bool x19_1 ∧ Aside0 (impl_CredOk.j0 kq x19_1 a0_0 a0_1 a0_2 a0_3 a0_4 a0_5 a0_6 a0_7 a0_8 a0_9 = some r) ∧ Aside0 (kq ≤ k) ∧ Aside0 (wc.heap[gb337]? = some (.cells #[.int .i64 a0_0, .int .i64 a0_1, .int .i64 a0_2, .int .i64 a0_3, .int .i64 a0_4, .int .i64 a0_5, .int .i64 a0_6, .int .i64 a0_7, .int .i64 a0_8, .int .i64 a0_9] 48 (0, 0))) ∧ Aside0 (Below w.heap.size w wc))
 case first =>
  have H := HC2.out
  clear HC2
  obtain ⟨t338, A4, H⟩ := bindE_ H
  by_cases c5 : t338 = true
  ·subst c5
   replace H := ite_t_ H
   obtain ⟨t339, A6, H⟩ := bindE_ H
   by_cases c7 : t339 = true
   ·subst c7
    replace H := ite_t_ H
    obtain ⟨t340, A8, H⟩ := bindE_ H
    have H' := Aside0.mk H
    clear H
    have hcz9 := blk_cell BK337.out
    have hfz9 := blk_frozen BK337.out
    go_wp2_with (first | ((with_reducible refine gate_callee (f := 46) rfl ?_); refine goesC_ (some 6) Try.func46 #[.agg #[.int .i64 a0_1, .int .i64 a0_2]] ?_; (with_reducible refine (impl_RoleOk.calls a0_1 a0_2 true _ A4.out).mono ?_); rintro e w10 ⟨rfl, hb⟩; refine ⟨_, rfl, ?_⟩; replace BK337 := bkb_ BK337 hb; replace HB := hbs_ hb; clear hb; have hcz11 := blk_cell BK337.out; have hfz11 := blk_frozen BK337.out) | (go_at_call 36; (with_reducible refine (impl_in.calls a0_8 1 9999 true _ A6.out).mono ?_); rintro e w' ⟨rfl, ⟨nd, rfl⟩⟩) | (go_at_call 36; (with_reducible refine (impl_in.calls a0_9 0 99 t340 _ A8.out).mono ?_); rintro e w' ⟨rfl, ⟨nd, rfl⟩⟩))
    go_meet
    case rel => exact ⟨_, (!t340), rf_, H', ⟨by first | omega | exact Nat.le_refl _⟩, ⟨bk_ BK337⟩, ⟨bl_⟩⟩
   ·replace c7 := Bool.eq_false_iff.mpr c7
    subst c7
    replace H := ite_f_ H
    have H' := Aside0.mk H
    clear H
    have hcz12 := blk_cell BK337.out
    have hfz12 := blk_frozen BK337.out
    go_wp2_with (first | ((with_reducible refine gate_callee (f := 46) rfl ?_); refine goesC_ (some 6) Try.func46 #[.agg #[.int .i64 a0_1, .int .i64 a0_2]] ?_; (with_reducible refine (impl_RoleOk.calls a0_1 a0_2 true _ A4.out).mono ?_); rintro e w13 ⟨rfl, hb⟩; refine ⟨_, rfl, ?_⟩; replace BK337 := bkb_ BK337 hb; replace HB := hbs_ hb; clear hb; have hcz14 := blk_cell BK337.out; have hfz14 := blk_frozen BK337.out) | (go_at_call 36; (with_reducible refine (impl_in.calls a0_8 1 9999 false _ A6.out).mono ?_); rintro e w' ⟨rfl, ⟨nd, rfl⟩⟩))
    go_meet
    case rel => exact ⟨_, (true), rf_, H', ⟨by first | omega | exact Nat.le_refl _⟩, ⟨bk_ BK337⟩, ⟨bl_⟩⟩
  ·replace c5 := Bool.eq_false_iff.mpr c5
   subst c5
   replace H := ite_f_ H
   have H' := Aside0.mk H
   clear H
   have hcz15 := blk_cell BK337.out
   have hfz15 := blk_frozen BK337.out
   go_wp2_with (first | ((with_reducible refine gate_callee (f := 46) rfl ?_); refine goesC_ (some 6) Try.func46 #[.agg #[.int .i64 a0_1, .int .i64 a0_2]] ?_; (with_reducible refine (impl_RoleOk.calls a0_1 a0_2 false _ A4.out).mono ?_); rintro e w16 ⟨rfl, hb⟩; refine ⟨_, rfl, ?_⟩; replace BK337 := bkb_ BK337 hb; replace HB := hbs_ hb; clear hb))
   go_meet
   case rel => exact ⟨_, (true), rf_, H', ⟨by first | omega | exact Nat.le_refl _⟩, ⟨bk_ BK337⟩, ⟨bl_⟩⟩
 case rest =>
  clear HC2
  try clear c2
  try clear p2
  try clear c4
  try clear c5
  try clear c7
  try clear hcz11
  try clear hcz12
  try clear hcz14
  try clear hcz15
  try clear hcz9
  try clear hfz11
  try clear hfz12
  try clear hfz14
  try clear hfz15
  try clear hfz9
  obtain ⟨kq, x19_1, rfl, HA, HJ1, BK337, HB⟩ := hcut
  cases kq with
  | zero => exact absurd HA.out (by simp [impl_CredOk.j0])
  | succ kj1 =>
   have H := HA.out
   clear HA
   simp only [impl_CredOk.j0] at H
   by_cases c17 : x19_1 = true
   ·subst c17
    replace H := ite_t_ H
    obtain rfl := Option.some.inj H
    go_wp2
    go_ret
    exact ⟨eq_, bl_⟩
   ·replace c17 := Bool.eq_false_iff.mpr c17
    subst c17
    replace H := ite_f_ H
    by_cases c18 : a0_0 = 1
    ·rw [if_pos c18] at H
     have c18b0 : (a0_0 == 1) = true := beq_iff_eq.mpr c18
     have c18b1 : (a0_0 != 1) = false := bne_eq_false_iff_eq.mpr c18
     clear c18
     obtain ⟨t342, A19, H⟩ := bindE_ H
     by_cases c20 : t342 = true
     ·subst c20
      replace H := ite_t_ H
      by_cases c21 : (a0_4 == 0 && (a0_5 == 0)) = true
      ·rw [if_pos c21] at H
       have c21b0 : (a0_4 == 0 && (a0_5 == 0)) = true := c21
       (try (have c21b1 : decide (a0_4 = 0 && (a0_5 == 0)) = true := by simpa using c21))
       (try (have c21b2 : (a0_4 == 0 && (a0_5 == 0)) = true := by simpa using c21))
       clear c21
       obtain rfl := Option.some.inj H
       go_wp2_with (first | ((with_reducible refine gate_dst (N := 3) rfl ?_); refine box_event ?hg (N := 3) ?hd (cs := #[.int .i64 0, .int .i64 0]) (t := 26) ?hr ?_; (case hd => rfl); (case hg => rfl); (case hr => first | (go_simp; done) | (go_simp; rfl)); intro gb341 hg w22 hbox hb; have BK341 := Aside0.mk (hbox); have GW341 := gs_ hg; have GE341 := gs_ hg; replace HB := hbs_ hb; have NB337_341 := nl_ hg BK337; have NB341_337 := nr_ hg BK337; replace BK337 := bkb_ BK337 hb; clear hb hbox hg; have hnb23 := NB341_337.out; have hnc23 := NB337_341.out; have hcz24 := blk_cell BK341.out; have hfz24 := blk_frozen BK341.out; have hcz25 := blk_cell BK337.out; have hfz25 := blk_frozen BK337.out) | ((with_reducible refine gate_callee (f := 47) rfl ?_); refine goesC_ (some 27) Try.func47 #[.int .i64 a0_3] ?_; (with_reducible refine (impl_isPerson.calls a0_3 true _ A19.out).mono ?_); rintro e w' ⟨rfl, ⟨nd, rfl⟩⟩; refine ⟨_, rfl, ?_⟩))
       go_ret
       exact ⟨eq_, bl_⟩
      ·rw [if_neg c21] at H
       have c21b0 : (a0_4 == 0 && (a0_5 == 0)) = false := by simpa using c21
       (try (have c21b1 : decide (a0_4 = 0 && (a0_5 == 0)) = false := by simpa using c21))
       (try (have c21b2 : (a0_4 == 0 && (a0_5 == 0)) = false := by simpa using c21))
       (try (have c21b3 : ¬ (a0_4 = 0 && (a0_5 == 0)) := by simpa using c21))
       clear c21
       obtain rfl := Option.some.inj H
       go_wp2_with (first | ((with_reducible refine gate_dst (N := 3) rfl ?_); refine box_event ?hg (N := 3) ?hd (cs := #[.int .i64 0, .int .i64 0]) (t := 26) ?hr ?_; (case hd => rfl); (case hg => rfl); (case hr => first | (go_simp; done) | (go_simp; rfl)); intro gb341 hg w26 hbox hb; have BK341 := Aside0.mk (hbox); have GW341 := gs_ hg; have GE341 := gs_ hg; replace HB := hbs_ hb; have NB337_341 := nl_ hg BK337; have NB341_337 := nr_ hg BK337; replace BK337 := bkb_ BK337 hb; clear hb hbox hg; have hnb27 := NB341_337.out; have hnc27 := NB337_341.out; have hcz28 := blk_cell BK341.out; have hfz28 := blk_frozen BK341.out; have hcz29 := blk_cell BK337.out; have hfz29 := blk_frozen BK337.out) | ((with_reducible refine gate_callee (f := 47) rfl ?_); refine goesC_ (some 27) Try.func47 #[.int .i64 a0_3] ?_; (with_reducible refine (impl_isPerson.calls a0_3 true _ A19.out).mono ?_); rintro e w' ⟨rfl, ⟨nd, rfl⟩⟩; refine ⟨_, rfl, ?_⟩))
       go_ret
       exact ⟨eq_, bl_⟩
     ·replace c20 := Bool.eq_false_iff.mpr c20
      subst c20
      replace H := ite_f_ H
      obtain rfl := Option.some.inj H
      go_wp2_with (first | ((with_reducible refine gate_dst (N := 3) rfl ?_); refine box_event ?hg (N := 3) ?hd (cs := #[.int .i64 0, .int .i64 0]) (t := 26) ?hr ?_; (case hd => rfl); (case hg => rfl); (case hr => first | (go_simp; done) | (go_simp; rfl)); intro gb341 hg w30 hbox hb; have BK341 := Aside0.mk (hbox); have GW341 := gs_ hg; have GE341 := gs_ hg; replace HB := hbs_ hb; have NB337_341 := nl_ hg BK337; have NB341_337 := nr_ hg BK337; replace BK337 := bkb_ BK337 hb; clear hb hbox hg; have hnb31 := NB341_337.out; have hnc31 := NB337_341.out; have hcz32 := blk_cell BK341.out; have hfz32 := blk_frozen BK341.out; have hcz33 := blk_cell BK337.out; have hfz33 := blk_frozen BK337.out) | ((with_reducible refine gate_callee (f := 47) rfl ?_); refine goesC_ (some 27) Try.func47 #[.int .i64 a0_3] ?_; (with_reducible refine (impl_isPerson.calls a0_3 false _ A19.out).mono ?_); rintro e w' ⟨rfl, ⟨nd, rfl⟩⟩; refine ⟨_, rfl, ?_⟩))
      go_ret
      exact ⟨eq_, bl_⟩
    ·rw [if_neg c18] at H
     have c18b0 : (a0_0 == 1) = false := beq_eq_false_iff_ne.mpr c18
     have c18b1 : (a0_0 != 1) = true := bne_iff_ne.mpr c18
     by_cases c34 : a0_0 = 2
     ·rw [if_pos c34] at H
      have c34b0 : (a0_0 == 2) = true := beq_iff_eq.mpr c34
      have c34b1 : (a0_0 != 2) = false := bne_eq_false_iff_eq.mpr c34
      clear c34
      by_cases c35 : a0_3 = 0
      ·rw [if_pos c35] at H
       have c35b0 : (a0_3 == 0) = true := beq_iff_eq.mpr c35
       have c35b1 : (a0_3 != 0) = false := bne_eq_false_iff_eq.mpr c35
       clear c35
       obtain ⟨t343, A36, H⟩ := bindE_ H
       by_cases c37 : t343 = true
       ·subst c37
        replace H := ite_t_ H
        obtain rfl := Option.some.inj H
        go_wp2_with (first | ((with_reducible refine gate_dst (N := 3) rfl ?_); refine box_event ?hg (N := 3) ?hd (cs := #[.int .i64 0, .int .i64 0]) (t := 26) ?hr ?_; (case hd => rfl); (case hg => rfl); (case hr => first | (go_simp; done) | (go_simp; rfl)); intro gb341 hg w38 hbox hb; have BK341 := Aside0.mk (hbox); have GW341 := gs_ hg; have GE341 := gs_ hg; replace HB := hbs_ hb; have NB337_341 := nl_ hg BK337; have NB341_337 := nr_ hg BK337; replace BK337 := bkb_ BK337 hb; clear hb hbox hg; have hnb39 := NB341_337.out; have hnc39 := NB337_341.out; have hcz40 := blk_cell BK341.out; have hfz40 := blk_frozen BK341.out; have hcz41 := blk_cell BK337.out; have hfz41 := blk_frozen BK337.out) | (go_at_call 46; (with_reducible refine (impl_RoleOk.calls a0_4 a0_5 true _ A36.out).mono ?_); rintro e w42 ⟨rfl, hb⟩; replace BK337 := Aside0.mk (blk_below (g := gb337) (o := .cells #[.int .i64 a0_0, .int .i64 a0_1, .int .i64 a0_2, .int .i64 a0_3, .int .i64 a0_4, .int .i64 a0_5, .int .i64 a0_6, .int .i64 a0_7, .int .i64 a0_8, .int .i64 a0_9] 48 (0, 0)) (bk_ BK337) hb); replace BK341 := Aside0.mk (blk_below (g := gb341) (o := .cells #[.int .i64 0, .int .i64 0] 26 (0, 0)) (bk_ BK341) hb); replace HB := hbs_ hb; clear hb; have hcz43 := blk_cell BK337.out; have hfz43 := blk_frozen BK337.out; have hcz44 := blk_cell BK341.out; have hfz44 := blk_frozen BK341.out))
        go_ret
        exact ⟨eq_, bl_⟩
       ·replace c37 := Bool.eq_false_iff.mpr c37
        subst c37
        replace H := ite_f_ H
        obtain rfl := Option.some.inj H
        go_wp2_with (first | ((with_reducible refine gate_dst (N := 3) rfl ?_); refine box_event ?hg (N := 3) ?hd (cs := #[.int .i64 0, .int .i64 0]) (t := 26) ?hr ?_; (case hd => rfl); (case hg => rfl); (case hr => first | (go_simp; done) | (go_simp; rfl)); intro gb341 hg w45 hbox hb; have BK341 := Aside0.mk (hbox); have GW341 := gs_ hg; have GE341 := gs_ hg; replace HB := hbs_ hb; have NB337_341 := nl_ hg BK337; have NB341_337 := nr_ hg BK337; replace BK337 := bkb_ BK337 hb; clear hb hbox hg; have hnb46 := NB341_337.out; have hnc46 := NB337_341.out; have hcz47 := blk_cell BK341.out; have hfz47 := blk_frozen BK341.out; have hcz48 := blk_cell BK337.out; have hfz48 := blk_frozen BK337.out) | (go_at_call 46; (with_reducible refine (impl_RoleOk.calls a0_4 a0_5 false _ A36.out).mono ?_); rintro e w49 ⟨rfl, hb⟩; replace BK337 := Aside0.mk (blk_below (g := gb337) (o := .cells #[.int .i64 a0_0, .int .i64 a0_1, .int .i64 a0_2, .int .i64 a0_3, .int .i64 a0_4, .int .i64 a0_5, .int .i64 a0_6, .int .i64 a0_7, .int .i64 a0_8, .int .i64 a0_9] 48 (0, 0)) (bk_ BK337) hb); replace BK341 := Aside0.mk (blk_below (g := gb341) (o := .cells #[.int .i64 0, .int .i64 0] 26 (0, 0)) (bk_ BK341) hb); replace HB := hbs_ hb; clear hb))
        go_ret
        exact ⟨eq_, bl_⟩
      ·rw [if_neg c35] at H
       have c35b0 : (a0_3 == 0) = false := beq_eq_false_iff_ne.mpr c35
       have c35b1 : (a0_3 != 0) = true := bne_iff_ne.mpr c35
       obtain rfl := Option.some.inj H
       go_wp2_with (first | ((with_reducible refine gate_dst (N := 3) rfl ?_); refine box_event ?hg (N := 3) ?hd (cs := #[.int .i64 0, .int .i64 0]) (t := 26) ?hr ?_; (case hd => rfl); (case hg => rfl); (case hr => first | (go_simp; done) | (go_simp; rfl)); intro gb341 hg w50 hbox hb; have BK341 := Aside0.mk (hbox); have GW341 := gs_ hg; have GE341 := gs_ hg; replace HB := hbs_ hb; have NB337_341 := nl_ hg BK337; have NB341_337 := nr_ hg BK337; replace BK337 := bkb_ BK337 hb; clear hb hbox hg; have hnb51 := NB341_337.out; have hnc51 := NB337_341.out; have hcz52 := blk_cell BK341.out; have hfz52 := blk_frozen BK341.out; have hcz53 := blk_cell BK337.out; have hfz53 := blk_frozen BK337.out))
       go_ret
       exact ⟨eq_, bl_⟩
     ·rw [if_neg c34] at H
      have c34b0 : (a0_0 == 2) = false := beq_eq_false_iff_ne.mpr c34
      have c34b1 : (a0_0 != 2) = true := bne_iff_ne.mpr c34
      by_cases c54 : a0_0 = 3
      ·rw [if_pos c54] at H
       have c54b0 : (a0_0 == 3) = true := beq_iff_eq.mpr c54
       have c54b1 : (a0_0 != 3) = false := bne_eq_false_iff_eq.mpr c54
       clear c54
       by_cases c55 : a0_3 = 0
       ·rw [if_pos c55] at H
        have c55b0 : (a0_3 == 0) = true := beq_iff_eq.mpr c55
        have c55b1 : (a0_3 != 0) = false := bne_eq_false_iff_eq.mpr c55
        clear c55
        obtain ⟨t344, A56, H⟩ := bindE_ H
        by_cases c57 : t344 = true
        ·subst c57
         replace H := ite_t_ H
         obtain ⟨t345, A58, H⟩ := bindE_ H
         by_cases c59 : t345 = true
         ·subst c59
          replace H := ite_t_ H
          obtain rfl := Option.some.inj H
          go_wp2_with (first | ((with_reducible refine gate_dst (N := 3) rfl ?_); refine box_event ?hg (N := 3) ?hd (cs := #[.int .i64 0, .int .i64 0]) (t := 26) ?hr ?_; (case hd => rfl); (case hg => rfl); (case hr => first | (go_simp; done) | (go_simp; rfl)); intro gb341 hg w60 hbox hb; have BK341 := Aside0.mk (hbox); have GW341 := gs_ hg; have GE341 := gs_ hg; replace HB := hbs_ hb; have NB337_341 := nl_ hg BK337; have NB341_337 := nr_ hg BK337; replace BK337 := bkb_ BK337 hb; clear hb hbox hg; have hnb61 := NB341_337.out; have hnc61 := NB337_341.out; have hcz62 := blk_cell BK341.out; have hfz62 := blk_frozen BK341.out; have hcz63 := blk_cell BK337.out; have hfz63 := blk_frozen BK337.out) | (go_at_call 46; (with_reducible refine (impl_RoleOk.calls a0_4 a0_5 true _ A56.out).mono ?_); rintro e w64 ⟨rfl, hb⟩; replace BK337 := Aside0.mk (blk_below (g := gb337) (o := .cells #[.int .i64 a0_0, .int .i64 a0_1, .int .i64 a0_2, .int .i64 a0_3, .int .i64 a0_4, .int .i64 a0_5, .int .i64 a0_6, .int .i64 a0_7, .int .i64 a0_8, .int .i64 a0_9] 48 (0, 0)) (bk_ BK337) hb); replace BK341 := Aside0.mk (blk_below (g := gb341) (o := .cells #[.int .i64 0, .int .i64 0] 26 (0, 0)) (bk_ BK341) hb); replace HB := hbs_ hb; clear hb; have hcz65 := blk_cell BK337.out; have hfz65 := blk_frozen BK337.out) | (go_at_call 46; (with_reducible refine (impl_RoleOk.calls a0_6 a0_7 true _ A58.out).mono ?_); rintro e w66 ⟨rfl, hb⟩; replace BK337 := bkb_ BK337 hb; replace BK341 := bkb_ BK341 hb; replace HB := hbs_ hb; clear hb; have hcz67 := blk_cell BK337.out; have hfz67 := blk_frozen BK337.out))
          go_ret
          exact ⟨eq_, bl_⟩
         ·replace c59 := Bool.eq_false_iff.mpr c59
          subst c59
          replace H := ite_f_ H
          obtain rfl := Option.some.inj H
          go_wp2_with (first | ((with_reducible refine gate_dst (N := 3) rfl ?_); refine box_event ?hg (N := 3) ?hd (cs := #[.int .i64 0, .int .i64 0]) (t := 26) ?hr ?_; (case hd => rfl); (case hg => rfl); (case hr => first | (go_simp; done) | (go_simp; rfl)); intro gb341 hg w68 hbox hb; have BK341 := Aside0.mk (hbox); have GW341 := gs_ hg; have GE341 := gs_ hg; replace HB := hbs_ hb; have NB337_341 := nl_ hg BK337; have NB341_337 := nr_ hg BK337; replace BK337 := bkb_ BK337 hb; clear hb hbox hg; have hnb69 := NB341_337.out; have hnc69 := NB337_341.out; have hcz70 := blk_cell BK341.out; have hfz70 := blk_frozen BK341.out; have hcz71 := blk_cell BK337.out; have hfz71 := blk_frozen BK337.out) | (go_at_call 46; (with_reducible refine (impl_RoleOk.calls a0_4 a0_5 true _ A56.out).mono ?_); rintro e w72 ⟨rfl, hb⟩; replace BK337 := Aside0.mk (blk_below (g := gb337) (o := .cells #[.int .i64 a0_0, .int .i64 a0_1, .int .i64 a0_2, .int .i64 a0_3, .int .i64 a0_4, .int .i64 a0_5, .int .i64 a0_6, .int .i64 a0_7, .int .i64 a0_8, .int .i64 a0_9] 48 (0, 0)) (bk_ BK337) hb); replace BK341 := Aside0.mk (blk_below (g := gb341) (o := .cells #[.int .i64 0, .int .i64 0] 26 (0, 0)) (bk_ BK341) hb); replace HB := hbs_ hb; clear hb; have hcz73 := blk_cell BK337.out; have hfz73 := blk_frozen BK337.out) | (go_at_call 46; (with_reducible refine (impl_RoleOk.calls a0_6 a0_7 false _ A58.out).mono ?_); rintro e w74 ⟨rfl, hb⟩; replace BK337 := bkb_ BK337 hb; replace BK341 := bkb_ BK341 hb; replace HB := hbs_ hb; clear hb))
          go_ret
          exact ⟨eq_, bl_⟩
        ·replace c57 := Bool.eq_false_iff.mpr c57
         subst c57
         replace H := ite_f_ H
         obtain rfl := Option.some.inj H
         go_wp2_with (first | ((with_reducible refine gate_dst (N := 3) rfl ?_); refine box_event ?hg (N := 3) ?hd (cs := #[.int .i64 0, .int .i64 0]) (t := 26) ?hr ?_; (case hd => rfl); (case hg => rfl); (case hr => first | (go_simp; done) | (go_simp; rfl)); intro gb341 hg w75 hbox hb; have BK341 := Aside0.mk (hbox); have GW341 := gs_ hg; have GE341 := gs_ hg; replace HB := hbs_ hb; have NB337_341 := nl_ hg BK337; have NB341_337 := nr_ hg BK337; replace BK337 := bkb_ BK337 hb; clear hb hbox hg; have hnb76 := NB341_337.out; have hnc76 := NB337_341.out; have hcz77 := blk_cell BK341.out; have hfz77 := blk_frozen BK341.out; have hcz78 := blk_cell BK337.out; have hfz78 := blk_frozen BK337.out) | (go_at_call 46; (with_reducible refine (impl_RoleOk.calls a0_4 a0_5 false _ A56.out).mono ?_); rintro e w79 ⟨rfl, hb⟩; replace BK337 := Aside0.mk (blk_below (g := gb337) (o := .cells #[.int .i64 a0_0, .int .i64 a0_1, .int .i64 a0_2, .int .i64 a0_3, .int .i64 a0_4, .int .i64 a0_5, .int .i64 a0_6, .int .i64 a0_7, .int .i64 a0_8, .int .i64 a0_9] 48 (0, 0)) (bk_ BK337) hb); replace BK341 := Aside0.mk (blk_below (g := gb341) (o := .cells #[.int .i64 0, .int .i64 0] 26 (0, 0)) (bk_ BK341) hb); replace HB := hbs_ hb; clear hb))
         go_ret
         exact ⟨eq_, bl_⟩
       ·rw [if_neg c55] at H
        have c55b0 : (a0_3 == 0) = false := beq_eq_false_iff_ne.mpr c55
        have c55b1 : (a0_3 != 0) = true := bne_iff_ne.mpr c55
        obtain rfl := Option.some.inj H
        go_wp2_with (first | ((with_reducible refine gate_dst (N := 3) rfl ?_); refine box_event ?hg (N := 3) ?hd (cs := #[.int .i64 0, .int .i64 0]) (t := 26) ?hr ?_; (case hd => rfl); (case hg => rfl); (case hr => first | (go_simp; done) | (go_simp; rfl)); intro gb341 hg w80 hbox hb; have BK341 := Aside0.mk (hbox); have GW341 := gs_ hg; have GE341 := gs_ hg; replace HB := hbs_ hb; have NB337_341 := nl_ hg BK337; have NB341_337 := nr_ hg BK337; replace BK337 := bkb_ BK337 hb; clear hb hbox hg; have hnb81 := NB341_337.out; have hnc81 := NB337_341.out; have hcz82 := blk_cell BK341.out; have hfz82 := blk_frozen BK341.out; have hcz83 := blk_cell BK337.out; have hfz83 := blk_frozen BK337.out))
        go_ret
        exact ⟨eq_, bl_⟩
      ·rw [if_neg c54] at H
       have c54b0 : (a0_0 == 3) = false := beq_eq_false_iff_ne.mpr c54
       have c54b1 : (a0_0 != 3) = true := bne_iff_ne.mpr c54
       by_cases c84 : a0_0 = 4
       ·rw [if_pos c84] at H
        have c84b0 : (a0_0 == 4) = true := beq_iff_eq.mpr c84
        have c84b1 : (a0_0 != 4) = false := bne_eq_false_iff_eq.mpr c84
        clear c84
        by_cases c85 : a0_3 = 0
        ·rw [if_pos c85] at H
         have c85b0 : (a0_3 == 0) = true := beq_iff_eq.mpr c85
         have c85b1 : (a0_3 != 0) = false := bne_eq_false_iff_eq.mpr c85
         clear c85
         obtain ⟨t346, A86, H⟩ := bindE_ H
         by_cases c87 : t346 = true
         ·subst c87
          replace H := ite_t_ H
          obtain ⟨t347, A88, H⟩ := bindE_ H
          obtain rfl := Option.some.inj H
          go_wp2_with (first | ((with_reducible refine gate_dst (N := 3) rfl ?_); refine box_event ?hg (N := 3) ?hd (cs := #[.int .i64 0, .int .i64 0]) (t := 26) ?hr ?_; (case hd => rfl); (case hg => rfl); (case hr => first | (go_simp; done) | (go_simp; rfl)); intro gb341 hg w89 hbox hb; have BK341 := Aside0.mk (hbox); have GW341 := gs_ hg; have GE341 := gs_ hg; replace HB := hbs_ hb; have NB337_341 := nl_ hg BK337; have NB341_337 := nr_ hg BK337; replace BK337 := bkb_ BK337 hb; clear hb hbox hg; have hnb90 := NB341_337.out; have hnc90 := NB337_341.out; have hcz91 := blk_cell BK341.out; have hfz91 := blk_frozen BK341.out; have hcz92 := blk_cell BK337.out; have hfz92 := blk_frozen BK337.out) | (go_at_call 46; (with_reducible refine (impl_RoleOk.calls a0_4 a0_5 true _ A86.out).mono ?_); rintro e w93 ⟨rfl, hb⟩; replace BK337 := Aside0.mk (blk_below (g := gb337) (o := .cells #[.int .i64 a0_0, .int .i64 a0_1, .int .i64 a0_2, .int .i64 a0_3, .int .i64 a0_4, .int .i64 a0_5, .int .i64 a0_6, .int .i64 a0_7, .int .i64 a0_8, .int .i64 a0_9] 48 (0, 0)) (bk_ BK337) hb); replace BK341 := Aside0.mk (blk_below (g := gb341) (o := .cells #[.int .i64 0, .int .i64 0] 26 (0, 0)) (bk_ BK341) hb); replace HB := hbs_ hb; clear hb; have hcz94 := blk_cell BK337.out; have hfz94 := blk_frozen BK337.out) | (go_at_call 46; (with_reducible refine (impl_RoleOk.calls a0_6 a0_7 t347 _ A88.out).mono ?_); rintro e w95 ⟨rfl, hb⟩; replace BK337 := bkb_ BK337 hb; replace BK341 := bkb_ BK341 hb; replace HB := hbs_ hb; clear hb))
          go_ret
          exact ⟨eq_, bl_⟩
         ·replace c87 := Bool.eq_false_iff.mpr c87
          subst c87
          replace H := ite_f_ H
          obtain rfl := Option.some.inj H
          go_wp2_with (first | ((with_reducible refine gate_dst (N := 3) rfl ?_); refine box_event ?hg (N := 3) ?hd (cs := #[.int .i64 0, .int .i64 0]) (t := 26) ?hr ?_; (case hd => rfl); (case hg => rfl); (case hr => first | (go_simp; done) | (go_simp; rfl)); intro gb341 hg w96 hbox hb; have BK341 := Aside0.mk (hbox); have GW341 := gs_ hg; have GE341 := gs_ hg; replace HB := hbs_ hb; have NB337_341 := nl_ hg BK337; have NB341_337 := nr_ hg BK337; replace BK337 := bkb_ BK337 hb; clear hb hbox hg; have hnb97 := NB341_337.out; have hnc97 := NB337_341.out; have hcz98 := blk_cell BK341.out; have hfz98 := blk_frozen BK341.out; have hcz99 := blk_cell BK337.out; have hfz99 := blk_frozen BK337.out) | (go_at_call 46; (with_reducible refine (impl_RoleOk.calls a0_4 a0_5 false _ A86.out).mono ?_); rintro e w100 ⟨rfl, hb⟩; replace BK337 := Aside0.mk (blk_below (g := gb337) (o := .cells #[.int .i64 a0_0, .int .i64 a0_1, .int .i64 a0_2, .int .i64 a0_3, .int .i64 a0_4, .int .i64 a0_5, .int .i64 a0_6, .int .i64 a0_7, .int .i64 a0_8, .int .i64 a0_9] 48 (0, 0)) (bk_ BK337) hb); replace BK341 := Aside0.mk (blk_below (g := gb341) (o := .cells #[.int .i64 0, .int .i64 0] 26 (0, 0)) (bk_ BK341) hb); replace HB := hbs_ hb; clear hb))
          go_ret
          exact ⟨eq_, bl_⟩
        ·rw [if_neg c85] at H
         have c85b0 : (a0_3 == 0) = false := beq_eq_false_iff_ne.mpr c85
         have c85b1 : (a0_3 != 0) = true := bne_iff_ne.mpr c85
         obtain rfl := Option.some.inj H
         go_wp2_with (first | ((with_reducible refine gate_dst (N := 3) rfl ?_); refine box_event ?hg (N := 3) ?hd (cs := #[.int .i64 0, .int .i64 0]) (t := 26) ?hr ?_; (case hd => rfl); (case hg => rfl); (case hr => first | (go_simp; done) | (go_simp; rfl)); intro gb341 hg w101 hbox hb; have BK341 := Aside0.mk (hbox); have GW341 := gs_ hg; have GE341 := gs_ hg; replace HB := hbs_ hb; have NB337_341 := nl_ hg BK337; have NB341_337 := nr_ hg BK337; replace BK337 := bkb_ BK337 hb; clear hb hbox hg; have hnb102 := NB341_337.out; have hnc102 := NB337_341.out; have hcz103 := blk_cell BK341.out; have hfz103 := blk_frozen BK341.out; have hcz104 := blk_cell BK337.out; have hfz104 := blk_frozen BK337.out))
         go_ret
         exact ⟨eq_, bl_⟩
       ·rw [if_neg c84] at H
        have c84b0 : (a0_0 == 4) = false := beq_eq_false_iff_ne.mpr c84
        have c84b1 : (a0_0 != 4) = true := bne_iff_ne.mpr c84
        obtain rfl := Option.some.inj H
        go_wp2_with (first | ((with_reducible refine gate_dst (N := 3) rfl ?_); refine box_event ?hg (N := 3) ?hd (cs := #[.int .i64 0, .int .i64 0]) (t := 26) ?hr ?_; (case hd => rfl); (case hg => rfl); (case hr => first | (go_simp; done) | (go_simp; rfl)); intro gb341 hg w105 hbox hb; have BK341 := Aside0.mk (hbox); have GW341 := gs_ hg; have GE341 := gs_ hg; replace HB := hbs_ hb; have NB337_341 := nl_ hg BK337; have NB341_337 := nr_ hg BK337; replace BK337 := bkb_ BK337 hb; clear hb hbox hg; have hnb106 := NB341_337.out; have hnc106 := NB337_341.out; have hcz107 := blk_cell BK341.out; have hfz107 := blk_frozen BK341.out; have hcz108 := blk_cell BK337.out; have hfz108 := blk_frozen BK337.out))
        go_ret
        exact ⟨eq_, bl_⟩
def impl_Fact_54.l0 : Nat → List (S54) → Int → Int → Int → Int → Int → Option (Int)
 | 0, _, _, _, _, _, _ => none
 | k + 1, x0, x7, x8, x349000, x349001, x349002 => if x8 < x7 then (if 0 ≤ x8 then (if x8 < (x0.length : Int) then (if ((x349000 == ((rd_T54 x0 x8).f0.f0) && (x349001 == ((rd_T54 x0 x8).f0.f1))) && (x349002 == ((rd_T54 x0 x8).f1))) = true then (some x8) else (impl_Fact_54.l0 k x0 x7 (wrap64 (x8 + 1)) x349000 x349001 x349002)) else (none)) else (none)) else (some (-1))
def impl_Fact_54.f (k : Nat) (l0 : List (S54)) (a1_0 : Int) (a1_1 : Int) (a1_2 : Int) : Option (Int) := impl_Fact_54.l0 k l0 (l0.length : Int) 0 a1_0 a1_1 a1_2
set_option maxHeartbeats 8000000 in
set_option maxRecDepth 100000 in
theorem impl_Fact_54.calls (k : Nat) (A0 : Option Addr) (c0 : Nat) (l0 : List (S54)) (a1_0 : Int) (a1_1 : Int) (a1_2 : Int) (r : Int) (w : World) (hr0 : Kd.C k54 w A0 l0.length l0) (hc0 : l0.length ≤ c0) (h : impl_Fact_54.f k l0 a1_0 a1_1 a1_2 = some r) :
  Calls Try.prog 54 #[.slice A0 l0.length c0, .agg #[.int .i64 a1_0, .int .i64 a1_1, .int .i64 a1_2]] w fun e w' => e = .returned (.int .i64 r) ∧ Below w.heap.size w w' := by
 have hu54 := Try.underlying54
 have HR0 := Aside0.mk hr0
 have HC0 := Aside0.mk hc0
 clear hr0 hc0
 have HB := Aside0.mk (Below.refl w.heap.size w)
 have H : (impl_Fact_54.l0 k l0 (l0.length : Int) 0 a1_0 a1_1 a1_2) = some r := h
 clear h
 have H' := Aside0.mk H
 clear H
 go_enter Try.func54, Try.ntmps54
 go_wp2_with (first | ((with_reducible refine gate_dst (N := 3) rfl ?_); refine box_event ?hg (N := 3) ?hd (cs := #[.int .i64 a1_0, .int .i64 a1_1, .int .i64 a1_2]) (t := 54) ?hr ?_; (case hd => rfl); (case hg => rfl); (case hr => first | (go_simp; done) | (go_simp; rfl)); intro gb348 hg w3 hbox hb; have BK348 := Aside0.mk (hbox); have GW348 := gs_ hg; have GE348 := gs_ hg; replace HB := hbs_ hb; clear hb hbox hg))
 repeat (go_quiet (first | ((with_reducible refine gate_dst (N := 3) rfl ?_); refine box_event ?hg (N := 3) ?hd (cs := #[.int .i64 a1_0, .int .i64 a1_1, .int .i64 a1_2]) (t := 54) ?hr ?_; (case hd => rfl); (case hg => rfl); (case hr => first | (go_simp; done) | (go_simp; rfl)); intro gb348 hg w3 hbox hb; have BK348 := Aside0.mk (hbox); have GW348 := gs_ hg; have GE348 := gs_ hg; replace HB := hbs_ hb; clear hb hbox hg)); try go_wp2_with (first | ((with_reducible refine gate_dst (N := 3) rfl ?_); refine box_event ?hg (N := 3) ?hd (cs := #[.int .i64 a1_0, .int .i64 a1_1, .int .i64 a1_2]) (t := 54) ?hr ?_; (case hd => rfl); (case hg => rfl); (case hr => first | (go_simp; done) | (go_simp; rfl)); intro gb348 hg w3 hbox hb; have BK348 := Aside0.mk (hbox); have GW348 := gs_ hg; have GE348 := gs_ hg; replace HB := hbs_ hb; clear hb hbox hg)))
 go_loopg [8] k (fun kq v8 w' => ∃ (x8_1 : Int), v8 = .int .i64 x8_1 ∧ Aside0 (impl_Fact_54.l0 kq l0 (l0.length : Int) x8_1 a1_0 a1_1 a1_2 = some r) ∧ Aside0 (kq ≤ k) ∧ Aside0 (w'.heap[gb348]? = some (.cells #[.int .i64 a1_0, .int .i64 a1_1, .int .i64 a1_2] 54 (0, 0))) ∧ Aside0 (Below w.heap.size w w'))
 case atStart => exact ⟨(0), rf_, H', ⟨Nat.le_refl _⟩, ⟨bk_ BK348⟩, ⟨bl_⟩⟩
 case round =>
  clear H'
  try clear p2
  obtain ⟨x8_1, rfl, HA, HK1, BK348, HB⟩ := hrel
  cases gk with
  | zero => exact absurd HA.out (by simp [impl_Fact_54.l0])
  | succ k1 =>
   have H := HA.out
   clear HA
   simp only [impl_Fact_54.l0] at H
   by_cases c4 : x8_1 < (l0.length : Int)
   ·rw [if_pos c4] at H
    have c4b0 : decide (x8_1 < (l0.length : Int)) = true := decide_eq_true c4
    clear c4
    obtain ⟨c5b0, H⟩ := ifd_ H
    obtain ⟨c6b0, H⟩ := ifd_ H
    by_cases c7 : ((a1_0 == ((rd_T54 l0 x8_1).f0.f0) && (a1_1 == ((rd_T54 l0 x8_1).f0.f1))) && (a1_2 == ((rd_T54 l0 x8_1).f1))) = true
    ·rw [if_pos c7] at H
     have c7b0 : ((a1_0 == ((rd_T54 l0 x8_1).f0.f0) && (a1_1 == ((rd_T54 l0 x8_1).f0.f1))) && (a1_2 == ((rd_T54 l0 x8_1).f1))) = true := c7
     clear c7
     obtain rfl := Option.some.inj H
     have hcz8 := blk_cell BK348.out
     have hfz8 := blk_frozen BK348.out
     have p349 : 0 ≤ (x8_1 : Int) := od_
     have q349 : x8_1 < (l0.length : Int) := od_
     obtain ⟨ad349, e349, hx349_0, hx349_1, hx349_2⟩ := at_T54 (Kd.C_below HR0.out HB.out) x8_1 p349 q349
     cases e349
     replace p349 := eq_true p349
     replace q349 := eq_true q349
     go_wp2
     repeat (go_quiet (fail); try go_wp2)
     go_ret
     exact ⟨eq_, bl_⟩
    ·rw [if_neg c7] at H
     have c7b0 : ((a1_0 == ((rd_T54 l0 x8_1).f0.f0) && (a1_1 == ((rd_T54 l0 x8_1).f0.f1))) && (a1_2 == ((rd_T54 l0 x8_1).f1))) = false := by simpa using c7
     clear c7
     have H' := Aside0.mk H
     clear H
     have hcz9 := blk_cell BK348.out
     have hfz9 := blk_frozen BK348.out
     have p349 : 0 ≤ (x8_1 : Int) := od_
     have q349 : x8_1 < (l0.length : Int) := od_
     obtain ⟨ad349, e349, hx349_0, hx349_1, hx349_2⟩ := at_T54 (Kd.C_below HR0.out HB.out) x8_1 p349 q349
     cases e349
     replace p349 := eq_true p349
     replace q349 := eq_true q349
     go_wp2
     repeat (go_quiet (fail); try go_wp2)
     go_roundg k1
     case measure => have := HK1.out; omega
     case rel => exact ⟨(wrap64 (x8_1 + 1)), rf_, H', ⟨by have := HK1.out; omega⟩, ⟨bk_ BK348⟩, ⟨bl_⟩⟩
   ·rw [if_neg c4] at H
    have c4b0 : decide (x8_1 < (l0.length : Int)) = false := decide_eq_false c4
    clear c4
    obtain rfl := Option.some.inj H
    go_wp2
    repeat (go_quiet (fail); try go_wp2)
    go_ret
    exact ⟨eq_, bl_⟩
def impl_Fact_39.f (k : Nat) (l0 : List (S54)) (a1_0 : Int) (a1_1 : Int) (a1_2 : Int) : Option (Bool) := (impl_Fact_54.f k l0 a1_0 a1_1 a1_2).bind fun t351 => (some (decide (t351 ≥ 0)))
set_option maxHeartbeats 8000000 in
set_option maxRecDepth 100000 in
theorem impl_Fact_39.calls (k : Nat) (A0 : Option Addr) (c0 : Nat) (l0 : List (S54)) (a1_0 : Int) (a1_1 : Int) (a1_2 : Int) (r : Bool) (w : World) (hr0 : Kd.C k54 w A0 l0.length l0) (hc0 : l0.length ≤ c0) (h : impl_Fact_39.f k l0 a1_0 a1_1 a1_2 = some r) :
  Calls Try.prog 39 #[.slice A0 l0.length c0, .agg #[.int .i64 a1_0, .int .i64 a1_1, .int .i64 a1_2]] w fun e w' => e = .returned (.bool r) ∧ Below w.heap.size w w' := by
 have hu54 := Try.underlying54
 have HR0 := Aside0.mk hr0
 have HC0 := Aside0.mk hc0
 clear hr0 hc0
 have HB := Aside0.mk (Below.refl w.heap.size w)
 have H : ((impl_Fact_54.f k l0 a1_0 a1_1 a1_2).bind fun t351 => (some (decide (t351 ≥ 0)))) = some r := h
 clear h
 obtain ⟨t351, A3, H⟩ := bindE_ H
 obtain rfl := Option.some.inj H
 go_enter Try.func39, Try.ntmps39
 go_wp2_with (first | ((with_reducible refine gate_dst (N := 3) rfl ?_); refine box_event ?hg (N := 3) ?hd (cs := #[.int .i64 a1_0, .int .i64 a1_1, .int .i64 a1_2]) (t := 54) ?hr ?_; (case hd => rfl); (case hg => rfl); (case hr => first | (go_simp; done) | (go_simp; rfl)); intro gb350 hg w4 hbox hb; have BK350 := Aside0.mk (hbox); have GW350 := gs_ hg; have GE350 := gs_ hg; replace HB := hbs_ hb; clear hb hbox hg; have hcz5 := blk_cell BK350.out; have hfz5 := blk_frozen BK350.out) | ((with_reducible refine gate_callee (f := 54) rfl ?_); refine goesC_ (some 7) Try.func54 #[.slice A0 l0.length c0, .agg #[.int .i64 a1_0, .int .i64 a1_1, .int .i64 a1_2]] ?_; (with_reducible refine (impl_Fact_54.calls k _ _ l0 a1_0 a1_1 a1_2 t351 _ ?side1 ?side2 A3.out).mono ?_); (case side1 => repeat (first | exact (Kd.C_below HR0.out HB.out) | (with_reducible refine Kd.C_alloc ?_ _) | (with_reducible refine Kd.C_drewN ?_ _) | (with_reducible refine Kd.C_drew ?_))); (case side2 => exact HC0.out); rintro e w6 ⟨rfl, hb⟩; refine ⟨_, rfl, ?_⟩; replace BK350 := bkb_ BK350 hb; replace HB := hbs_ hb; clear hb))
 go_ret
 exact ⟨eq_, bl_⟩
-- NOT PRINTED: function 81 (impl_derive_1)
def impl_factOk.f (a0_0 : Int) (a0_1 : Int) (a0_2 : Int) : Option (Bool) := (impl_RoleOk.f a0_0 a0_1).bind fun t353 => (if t353 = true then ((impl_isPerson.f a0_2).bind fun t354 => (some t354)) else (some false))
set_option maxHeartbeats 8000000 in
set_option maxRecDepth 100000 in
theorem impl_factOk.calls (a0_0 : Int) (a0_1 : Int) (a0_2 : Int) (r : Bool) (w : World) (h : impl_factOk.f a0_0 a0_1 a0_2 = some r) :
  Calls Try.prog 84 #[.agg #[.int .i64 a0_0, .int .i64 a0_1, .int .i64 a0_2]] w fun e w' => e = .returned (.bool r) ∧ Below w.heap.size w w' := by
 have hu54 := Try.underlying54
 have hu26 := Try.underlying26
 have HB := Aside0.mk (Below.refl w.heap.size w)
 have H : ((impl_RoleOk.f a0_0 a0_1).bind fun t353 => (if t353 = true then ((impl_isPerson.f a0_2).bind fun t354 => (some t354)) else (some false))) = some r := h
 clear h
 obtain ⟨t353, A2, H⟩ := bindE_ H
 by_cases c3 : t353 = true
 ·subst c3
  replace H := ite_t_ H
  obtain ⟨t354, A4, H⟩ := bindE_ H
  obtain rfl := Option.some.inj H
  go_enter Try.func84, Try.ntmps84
  go_wp2_with (first | ((with_reducible refine gate_dst (N := 1) rfl ?_); refine box_event ?hg (N := 1) ?hd (cs := #[.int .i64 a0_0, .int .i64 a0_1, .int .i64 a0_2]) (t := 54) ?hr ?_; (case hd => rfl); (case hg => rfl); (case hr => first | (go_simp; done) | (go_simp; rfl)); intro gb352 hg w5 hbox hb; have BK352 := Aside0.mk (hbox); have GW352 := gs_ hg; have GE352 := gs_ hg; replace HB := hbs_ hb; clear hb hbox hg; have hcz6 := blk_cell BK352.out; have hfz6 := blk_frozen BK352.out) | ((with_reducible refine gate_callee (f := 46) rfl ?_); refine goesC_ (some 5) Try.func46 #[.agg #[.int .i64 a0_0, .int .i64 a0_1]] ?_; (with_reducible refine (impl_RoleOk.calls a0_0 a0_1 true _ A2.out).mono ?_); rintro e w7 ⟨rfl, hb⟩; refine ⟨_, rfl, ?_⟩; replace BK352 := bkb_ BK352 hb; replace HB := hbs_ hb; clear hb; have hcz8 := blk_cell BK352.out; have hfz8 := blk_frozen BK352.out) | (go_at_call 47; (with_reducible refine (impl_isPerson.calls a0_2 t354 _ A4.out).mono ?_); rintro e w' ⟨rfl, ⟨nd, rfl⟩⟩))
  go_ret
  exact ⟨eq_, bl_⟩
 ·replace c3 := Bool.eq_false_iff.mpr c3
  subst c3
  replace H := ite_f_ H
  obtain rfl := Option.some.inj H
  go_enter Try.func84, Try.ntmps84
  go_wp2_with (first | ((with_reducible refine gate_dst (N := 1) rfl ?_); refine box_event ?hg (N := 1) ?hd (cs := #[.int .i64 a0_0, .int .i64 a0_1, .int .i64 a0_2]) (t := 54) ?hr ?_; (case hd => rfl); (case hg => rfl); (case hr => first | (go_simp; done) | (go_simp; rfl)); intro gb352 hg w9 hbox hb; have BK352 := Aside0.mk (hbox); have GW352 := gs_ hg; have GE352 := gs_ hg; replace HB := hbs_ hb; clear hb hbox hg; have hcz10 := blk_cell BK352.out; have hfz10 := blk_frozen BK352.out) | ((with_reducible refine gate_callee (f := 46) rfl ?_); refine goesC_ (some 5) Try.func46 #[.agg #[.int .i64 a0_0, .int .i64 a0_1]] ?_; (with_reducible refine (impl_RoleOk.calls a0_0 a0_1 false _ A2.out).mono ?_); rintro e w11 ⟨rfl, hb⟩; refine ⟨_, rfl, ?_⟩; replace BK352 := bkb_ BK352 hb; replace HB := hbs_ hb; clear hb))
  go_ret
  exact ⟨eq_, bl_⟩
def impl_whoOf.l0 : Nat → List Int → List (S54) → Int → Int → Int → Int → Option (List Int)
 | 0, _, _, _, _, _, _ => none
 | k + 1, x5, x9, x10, x11, x356000, x356001 => if x11 < x10 then (if 0 ≤ x11 then (if x11 < (x9.length : Int) then (if (((rd_T54 x9 x11).f0.f0) == x356000 && (((rd_T54 x9 x11).f0.f1) == x356001)) = true then ((impl_factOk.f ((rd_T54 x9 x11).f0.f0) ((rd_T54 x9 x11).f0.f1) ((rd_T54 x9 x11).f1)).bind fun t361 => (if t361 = true then (if x5.length < 17592186044416 then (impl_whoOf.l0 k (x5 ++ [x11]) x9 x10 (wrap64 (x11 + 1)) x356000 x356001) else (none)) else (impl_whoOf.l0 k x5 x9 x10 (wrap64 (x11 + 1)) x356000 x356001))) else (impl_whoOf.l0 k x5 x9 x10 (wrap64 (x11 + 1)) x356000 x356001)) else (none)) else (none)) else (some x5)
def impl_whoOf.f (k : Nat) (l0 : List (S54)) (a1_0 : Int) (a1_1 : Int) : Option (List Int) := impl_whoOf.l0 k (([] : List Int)) l0 (l0.length : Int) 0 a1_0 a1_1
set_option maxHeartbeats 8000000 in
set_option maxRecDepth 100000 in
theorem impl_whoOf.calls (k : Nat) (A0 : Option Addr) (c0 : Nat) (l0 : List (S54)) (a1_0 : Int) (a1_1 : Int) (r : List Int) (w : World) (hr0 : Kd.C k54 w A0 l0.length l0) (hc0 : l0.length ≤ c0) (h : impl_whoOf.f k l0 a1_0 a1_1 = some r) :
  Calls Try.prog 82 #[.slice A0 l0.length c0, .agg #[.int .i64 a1_0, .int .i64 a1_1]] w fun e w' => ∃ v0_ : Value, e = .returned (v0_) ∧ Kd.R (Kd.int .i64) 3 w' w.heap.size (fun _ => True) v0_ r ∧ Below w.heap.size w w' := by
 have hu26 := Try.underlying26
 have hu54 := Try.underlying54
 have HR0 := Aside0.mk hr0
 have HC0 := Aside0.mk hc0
 clear hr0 hc0
 have HB := Aside0.mk (Below.refl w.heap.size w)
 have H : (impl_whoOf.l0 k (([] : List Int)) l0 (l0.length : Int) 0 a1_0 a1_1) = some r := h
 clear h
 obtain ⟨y356, hy356⟩ : ∃ y_ : List Int, y_ = (([] : List Int)) := ⟨_, rfl⟩
 replace H : (impl_whoOf.l0 k y356 l0 (l0.length : Int) 0 a1_0 a1_1) = some r := by first | (rw [hy356]; with_reducible exact H) | (have H2_ := (Option.bind_some _ _).symm.trans H; rw [hy356]; with_reducible exact H2_) | (have H2_ := (Option.bind_some _ _).symm.trans H; with_reducible exact H2_) | with_reducible exact H | (rw [hy356]; exact H) | exact H
 have Ny356 := Aside0.mk hy356
 clear hy356
 have H' := Aside0.mk H
 clear H
 go_enter Try.func82, Try.ntmps82
 go_wp2_with (first | ((with_reducible refine gate_dst (N := 3) rfl ?_); refine box_event ?hg (N := 3) ?hd (cs := #[.int .i64 a1_0, .int .i64 a1_1]) (t := 26) ?hr ?_; (case hd => rfl); (case hg => rfl); (case hr => first | (go_simp; done) | (go_simp; rfl)); intro gb355 hg w3 hbox hb; have BK355 := Aside0.mk (hbox); have GW355 := gs_ hg; have GE355 := gs_ hg; replace HB := hbs_ hb; clear hb hbox hg) | ((with_reducible refine gate_dst (N := 8) rfl ?_); refine Kd.R_lit (Kd.int .i64) _ 3 ?hg (N := 8) ?hd (xs := ([] : List Int)) (inner := []) (ok := fun _ => True) (okp := fun _ => True) ?hr ?hp (fun _ hk => hk) trivial (Below.refl _ _) (Nat.le_refl _) (by simp) ?_; (case hd => rfl); (case hg => rfl); (case hr => first | (go_simp; done) | (go_simp; rfl)); (case hp => exact (Reps.none _ _)); intro v357 w4 ho5 hb hg_ hnew_; clear hg_ hnew_; (first | rw [← Ny356.out] at ho5 | (simp only [Int.reduceToNat] at ho5; rw [← Ny356.out] at ho5)); have HO358 := Aside0.mk (Kd.R_lower ho5 bls_); replace BK355 := bkb_ BK355 hb; replace HB := hbs_ hb; clear hb ho5))
 go_loopg [5, 11] k (fun kq v5 v11 w' => ∃ (x5_1 : List Int) (x11_1 : Int), v11 = .int .i64 x11_1 ∧ Aside0 (impl_whoOf.l0 kq x5_1 l0 (l0.length : Int) x11_1 a1_0 a1_1 = some r) ∧ Aside0 (kq ≤ k) ∧ Aside0 (Kd.R (Kd.int .i64) 3 w' w.heap.size (fun _ => True) v5 x5_1) ∧ Aside0 (w'.heap[gb355]? = some (.cells #[.int .i64 a1_0, .int .i64 a1_1] 26 (0, 0))) ∧ Aside0 (Below w.heap.size w w'))
 case atStart => exact ⟨(y356), (0), rf_, H', ⟨Nat.le_refl _⟩, ⟨by (with_reducible repeat (first | apply Kd.R_alloc | apply Kd.R_drewN | apply Kd.R_drew)); exact HO358.out⟩, ⟨bk_ BK355⟩, ⟨bl_⟩⟩
 case round =>
  clear H'
  try clear p2
  obtain ⟨x5_1, x11_1, rfl, HA, HK1, HO_5, BK355, HB⟩ := hrel
  cases gk with
  | zero => exact absurd HA.out (by simp [impl_whoOf.l0])
  | succ k1 =>
   have H := HA.out
   clear HA
   simp only [impl_whoOf.l0] at H
   by_cases c6 : x11_1 < (l0.length : Int)
   ·rw [if_pos c6] at H
    have c6b0 : decide (x11_1 < (l0.length : Int)) = true := decide_eq_true c6
    clear c6
    obtain ⟨c7b0, H⟩ := ifd_ H
    obtain ⟨c8b0, H⟩ := ifd_ H
    by_cases c9 : (((rd_T54 l0 x11_1).f0.f0) == a1_0 && (((rd_T54 l0 x11_1).f0.f1) == a1_1)) = true
    ·rw [if_pos c9] at H
     have c9b0 : (((rd_T54 l0 x11_1).f0.f0) == a1_0 && (((rd_T54 l0 x11_1).f0.f1) == a1_1)) = true := c9
     (try (have c9b1 : decide (((rd_T54 l0 x11_1).f0.f0) = a1_0 && (((rd_T54 l0 x11_1).f0.f1) == a1_1)) = true := by simpa using c9))
     (try (have c9b2 : (((rd_T54 l0 x11_1).f0.f0) == a1_0 && (((rd_T54 l0 x11_1).f0.f1) == a1_1)) = true := by simpa using c9))
     clear c9
     obtain ⟨t361, A10, H⟩ := bindE_ H
     by_cases c11 : t361 = true
     ·subst c11
      replace H := ite_t_ H
      obtain ⟨c12, H⟩ := ifn_ H
      have LMc12 := Aside0.mk c12
      clear c12
      obtain ⟨y362, hy362⟩ : ∃ y_ : List Int, y_ = (x5_1 ++ [x11_1]) := ⟨_, rfl⟩
      replace H : (impl_whoOf.l0 k1 y362 l0 (l0.length : Int) (wrap64 (x11_1 + 1)) a1_0 a1_1) = some r := by first | (rw [hy362]; with_reducible exact H) | (have H2_ := (Option.bind_some _ _).symm.trans H; rw [hy362]; with_reducible exact H2_) | (have H2_ := (Option.bind_some _ _).symm.trans H; with_reducible exact H2_) | with_reducible exact H | (rw [hy362]; exact H) | exact H
      have Ny362 := Aside0.mk hy362
      clear hy362
      have H' := Aside0.mk H
      clear H
      have p359 : 0 ≤ (x11_1 : Int) := od_
      have q359 : x11_1 < (l0.length : Int) := od_
      obtain ⟨ad359, e359, hx359_0, hx359_1, hx359_2⟩ := at_T54 (Kd.C_below HR0.out HB.out) x11_1 p359 q359
      cases e359
      replace p359 := eq_true p359
      replace q359 := eq_true q359
      go_wp2_with (first | ((with_reducible refine gate_dst (N := 7) rfl ?_); refine box_event ?hg (N := 7) ?hd (cs := #[.int .i64 0, .int .i64 0, .int .i64 0]) (t := 54) ?hr ?_; (case hd => rfl); (case hg => rfl); (case hr => first | (go_simp; done) | (go_simp; rfl)); intro gb360 hg w13 hbox hb; replace HO_5 := hob_ HO_5 hb; have BK360 := Aside0.mk (hbox); have GW360 := gs_ hg; have GE360 := gs_ hg; replace HB := hbs_ hb; have NB355_360 := nl_ hg BK355; have NB360_355 := nr_ hg BK355; replace BK355 := bkb_ BK355 hb; clear hb hbox hg; have hnb14 := NB360_355.out; have hnc14 := NB355_360.out; have hcz15 := blk_cell BK360.out; have hfz15 := blk_frozen BK360.out; have hcz16 := blk_cell BK355.out; have hfz16 := blk_frozen BK355.out) | (go_at_call 84; (with_reducible refine (impl_factOk.calls ((rd_T54 l0 x11_1).f0.f0) ((rd_T54 l0 x11_1).f0.f1) ((rd_T54 l0 x11_1).f1) true _ A10.out).mono ?_); rintro e w17 ⟨rfl, hb⟩; replace HO_5 := Aside0.mk (Kd.R_below (by (with_reducible repeat (first | apply Kd.R_alloc | apply Kd.R_drewN | apply Kd.R_drew)); exact (Kd.R_mono (Kd.R_far (p := ⟨gb360, 2, none⟩) (Kd.R_far (p := ⟨gb360, 1, none⟩) (Kd.R_far (p := ⟨gb360, 0, none⟩) (Kd.R_types HO_5.out BK360.out (by decide)) (fun _ hk => hk.2) (.int .i64 ((rd_T54 l0 x11_1).f0.f0))) (fun _ hk => hk.2) (.int .i64 ((rd_T54 l0 x11_1).f0.f1))) (fun _ hk => hk.2) (.int .i64 ((rd_T54 l0 x11_1).f1))) (fun _ h_ => h_.1))) hb); replace BK355 := Aside0.mk (blk_below (g := gb355) (o := .cells #[.int .i64 a1_0, .int .i64 a1_1] 26 (0, 0)) (bk_ BK355) hb); replace BK360 := Aside0.mk (blk_below (g := gb360) (o := .cells #[.int .i64 ((rd_T54 l0 x11_1).f0.f0), .int .i64 ((rd_T54 l0 x11_1).f0.f1), .int .i64 ((rd_T54 l0 x11_1).f1)] 54 (0, 0)) (bk_ BK360) hb); replace HB := hbs_ hb; clear hb) | ((with_reducible refine gate_builtin (b := .append) (xs := #[.tmp 24, .tmp 26]) rfl ?_); at_builtin; refine Kd.R_append (Kd.int .i64) (w0 := w) w.heap.size rfl (.tmp 24) (.tmp 26) 35 3 (.int .i64 0) 8 rfl Try.underlying35 info3 rfl (by decide) (by omega) u5 x5_1 x11_1 [.int .i64 x11_1] (fun _ => True) (fun _ => False) rfl rfl ?aP (fun _ hk => hk.elim) ?aF ?aO ?aB ?aS ?aL ?_; (case aP => exact rfl); (case aB => exact bl_); (case aF => exact (fun _ _ => trivial)); (case aO => exact (by (with_reducible repeat (first | apply Kd.R_alloc | apply Kd.R_drewN | apply Kd.R_drew)); exact HO_5.out)); (case aS => exact bls_); (case aL => have := LMc12.out; omega); intro v363 w18 ho hb hg hat; rw [← Ny362.out] at ho; replace BK355 := Aside0.mk (blk_grown (g := gb355) (o := .cells #[.int .i64 a1_0, .int .i64 a1_1] 26 (0, 0)) (bk_ BK355) hg (Kd.R_ne HO_5.out BK355.out (by decide))); replace BK360 := Aside0.mk (blk_grown (g := gb360) (o := .cells #[.int .i64 ((rd_T54 l0 x11_1).f0.f0), .int .i64 ((rd_T54 l0 x11_1).f0.f1), .int .i64 ((rd_T54 l0 x11_1).f1)] 54 (0, 0)) (bk_ BK360) hg (Kd.R_ne HO_5.out BK360.out (by decide))); replace HB := Aside0.mk (hb); have HO364 := Aside0.mk (ho); clear HO_5; clear ho hb hg hat))
      go_roundg k1
      case measure => have := HK1.out; omega
      case rel => exact ⟨(y362), (wrap64 (x11_1 + 1)), rf_, H', ⟨by have := HK1.out; omega⟩, ⟨by (with_reducible repeat (first | apply Kd.R_alloc | apply Kd.R_drewN | apply Kd.R_drew)); exact HO364.out⟩, ⟨bk_ BK355⟩, ⟨bl_⟩⟩
     ·replace c11 := Bool.eq_false_iff.mpr c11
      subst c11
      replace H := ite_f_ H
      have H' := Aside0.mk H
      clear H
      have p359 : 0 ≤ (x11_1 : Int) := od_
      have q359 : x11_1 < (l0.length : Int) := od_
      obtain ⟨ad359, e359, hx359_0, hx359_1, hx359_2⟩ := at_T54 (Kd.C_below HR0.out HB.out) x11_1 p359 q359
      cases e359
      replace p359 := eq_true p359
      replace q359 := eq_true q359
      go_wp2_with (first | ((with_reducible refine gate_dst (N := 7) rfl ?_); refine box_event ?hg (N := 7) ?hd (cs := #[.int .i64 0, .int .i64 0, .int .i64 0]) (t := 54) ?hr ?_; (case hd => rfl); (case hg => rfl); (case hr => first | (go_simp; done) | (go_simp; rfl)); intro gb360 hg w19 hbox hb; replace HO_5 := hob_ HO_5 hb; have BK360 := Aside0.mk (hbox); have GW360 := gs_ hg; have GE360 := gs_ hg; replace HB := hbs_ hb; have NB355_360 := nl_ hg BK355; have NB360_355 := nr_ hg BK355; replace BK355 := bkb_ BK355 hb; clear hb hbox hg; have hnb20 := NB360_355.out; have hnc20 := NB355_360.out; have hcz21 := blk_cell BK360.out; have hfz21 := blk_frozen BK360.out; have hcz22 := blk_cell BK355.out; have hfz22 := blk_frozen BK355.out) | (go_at_call 84; (with_reducible refine (impl_factOk.calls ((rd_T54 l0 x11_1).f0.f0) ((rd_T54 l0 x11_1).f0.f1) ((rd_T54 l0 x11_1).f1) false _ A10.out).mono ?_); rintro e w23 ⟨rfl, hb⟩; replace HO_5 := Aside0.mk (Kd.R_below (by (with_reducible repeat (first | apply Kd.R_alloc | apply Kd.R_drewN | apply Kd.R_drew)); exact (Kd.R_mono (Kd.R_far (p := ⟨gb360, 2, none⟩) (Kd.R_far (p := ⟨gb360, 1, none⟩) (Kd.R_far (p := ⟨gb360, 0, none⟩) (Kd.R_types HO_5.out BK360.out (by decide)) (fun _ hk => hk.2) (.int .i64 ((rd_T54 l0 x11_1).f0.f0))) (fun _ hk => hk.2) (.int .i64 ((rd_T54 l0 x11_1).f0.f1))) (fun _ hk => hk.2) (.int .i64 ((rd_T54 l0 x11_1).f1))) (fun _ h_ => h_.1))) hb); replace BK355 := Aside0.mk (blk_below (g := gb355) (o := .cells #[.int .i64 a1_0, .int .i64 a1_1] 26 (0, 0)) (bk_ BK355) hb); replace BK360 := Aside0.mk (blk_below (g := gb360) (o := .cells #[.int .i64 ((rd_T54 l0 x11_1).f0.f0), .int .i64 ((rd_T54 l0 x11_1).f0.f1), .int .i64 ((rd_T54 l0 x11_1).f1)] 54 (0, 0)) (bk_ BK360) hb); replace HB := hbs_ hb; clear hb))
      go_roundg k1
      case measure => have := HK1.out; omega
      case rel => exact ⟨(x5_1), (wrap64 (x11_1 + 1)), rf_, H', ⟨by have := HK1.out; omega⟩, ⟨by (with_reducible repeat (first | apply Kd.R_alloc | apply Kd.R_drewN | apply Kd.R_drew)); exact HO_5.out⟩, ⟨bk_ BK355⟩, ⟨bl_⟩⟩
    ·rw [if_neg c9] at H
     have c9b0 : (((rd_T54 l0 x11_1).f0.f0) == a1_0 && (((rd_T54 l0 x11_1).f0.f1) == a1_1)) = false := by simpa using c9
     (try (have c9b1 : decide (((rd_T54 l0 x11_1).f0.f0) = a1_0 && (((rd_T54 l0 x11_1).f0.f1) == a1_1)) = false := by simpa using c9))
     (try (have c9b2 : (((rd_T54 l0 x11_1).f0.f0) == a1_0 && (((rd_T54 l0 x11_1).f0.f1) == a1_1)) = false := by simpa using c9))
     (try (have c9b3 : ¬ (((rd_T54 l0 x11_1).f0.f0) = a1_0 && (((rd_T54 l0 x11_1).f0.f1) == a1_1)) := by simpa using c9))
     clear c9
     have H' := Aside0.mk H
     clear H
     have p359 : 0 ≤ (x11_1 : Int) := od_
     have q359 : x11_1 < (l0.length : Int) := od_
     obtain ⟨ad359, e359, hx359_0, hx359_1, hx359_2⟩ := at_T54 (Kd.C_below HR0.out HB.out) x11_1 p359 q359
     cases e359
     replace p359 := eq_true p359
     replace q359 := eq_true q359
     go_wp2_with (first | ((with_reducible refine gate_dst (N := 7) rfl ?_); refine box_event ?hg (N := 7) ?hd (cs := #[.int .i64 0, .int .i64 0, .int .i64 0]) (t := 54) ?hr ?_; (case hd => rfl); (case hg => rfl); (case hr => first | (go_simp; done) | (go_simp; rfl)); intro gb360 hg w24 hbox hb; replace HO_5 := hob_ HO_5 hb; have BK360 := Aside0.mk (hbox); have GW360 := gs_ hg; have GE360 := gs_ hg; replace HB := hbs_ hb; have NB355_360 := nl_ hg BK355; have NB360_355 := nr_ hg BK355; replace BK355 := bkb_ BK355 hb; clear hb hbox hg; have hnb25 := NB360_355.out; have hnc25 := NB355_360.out; have hcz26 := blk_cell BK360.out; have hfz26 := blk_frozen BK360.out; have hcz27 := blk_cell BK355.out; have hfz27 := blk_frozen BK355.out))
     go_roundg k1
     case measure => have := HK1.out; omega
     case rel => exact ⟨(x5_1), (wrap64 (x11_1 + 1)), rf_, H', ⟨by have := HK1.out; omega⟩, ⟨by (with_reducible repeat (first | apply Kd.R_alloc | apply Kd.R_drewN | apply Kd.R_drew)); exact Kd.R_mono (Kd.R_far (p := ⟨gb360, 2, none⟩) (Kd.R_far (p := ⟨gb360, 1, none⟩) (Kd.R_far (p := ⟨gb360, 0, none⟩) (Kd.R_types HO_5.out BK360.out (by decide)) (fun _ hk => hk.2) (.int .i64 ((rd_T54 l0 x11_1).f0.f0))) (fun _ hk => hk.2) (.int .i64 ((rd_T54 l0 x11_1).f0.f1))) (fun _ hk => hk.2) (.int .i64 ((rd_T54 l0 x11_1).f1))) (fun _ hk => trivial)⟩, ⟨bk_ BK355⟩, ⟨bl_⟩⟩
   ·rw [if_neg c6] at H
    have c6b0 : decide (x11_1 < (l0.length : Int)) = false := decide_eq_false c6
    clear c6
    obtain rfl := Option.some.inj H
    go_wp2
    go_ret
    exact ⟨_, eq_, by (with_reducible repeat (first | apply Kd.R_alloc | apply Kd.R_drewN | apply Kd.R_drew)); exact HO_5.out, bl_⟩
end Go.Proofs.Yteehgihclnlaoaa.PA
