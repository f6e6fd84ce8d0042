import Derived.Test.YteppfdkfikeclaaKRPLx6
-- A text of this claim: written by the session's own program out of the translation (wip/tools). Lean checks it.
namespace Go.Proofs.Yteppfdkfikeclaa.PL
open Go.RowKit Go.Proofs.YteppfdkfikeclaaW.PrintWords Go.Proofs.YteppfdkfikeclaaW.PrintLast Go.Proofs.YteppfdkfikeclaaW.PrintMore
attribute [local go_sem] max2_int min2_int max_two min_two max_three min_three max_four min_four   -- for this text's walks alone
set_option linter.unusedVariables false
set_option linter.unusedSimpArgs false
attribute [local go_sem high] eqA29
def impl_CredOk.j0 : Nat → Bool → Int → Int → Int → Int → Int → Int → Int → Int → Int → Int → Option (Bool)
 | 0, _, _, _, _, _, _, _, _, _, _, _ => none
 | k + 1, x19, x263000, x263001, x263002, x263003, x263004, x263005, x263006, x263007, x263008, x263009 => if x19 = true then (some false) else (if x263000 = 1 then ((impl_isPerson.f x263003).bind fun t267 => (if t267 = true then (if (x263004 == 0 && (x263005 == 0)) = true then (some (x263006 == 0 && (x263007 == 0))) else (some false)) else (some false))) else (if x263000 = 2 then (if x263003 = 0 then ((impl_RoleOk.f x263004 x263005).bind fun t268 => (if t268 = true then (some (x263006 == 0 && (x263007 == 0))) else (some false))) else (some false)) else (if x263000 = 3 then (if x263003 = 0 then ((impl_RoleOk.f x263004 x263005).bind fun t269 => (if t269 = true then ((impl_RoleOk.f x263006 x263007).bind fun t270 => (if t270 = true then (some (x263006 == 0)) else (some false))) else (some false))) else (some false)) else (if x263000 = 4 then (if x263003 = 0 then ((impl_RoleOk.f x263004 x263005).bind fun t271 => (if t271 = true then ((impl_RoleOk.f x263006 x263007).bind fun t272 => (some t272)) else (some false))) else (some false)) else (some false)))))
def impl_CredOk.f (k : Nat) (a0_0 : Int) (a0_1 : Int) (a0_2 : Int) (a0_3 : Int) (a0_4 : Int) (a0_5 : Int) (a0_6 : Int) (a0_7 : Int) (a0_8 : Int) (a0_9 : Int) : Option (Bool) := (impl_RoleOk.f a0_1 a0_2).bind fun t263 => (if t263 = true then ((impl_in.f a0_8 1 9999).bind fun t264 => (if t264 = true then ((impl_in.f a0_9 0 99).bind fun t265 => (impl_CredOk.j0 k (!t265) a0_0 a0_1 a0_2 a0_3 a0_4 a0_5 a0_6 a0_7 a0_8 a0_9)) else (impl_CredOk.j0 k true a0_0 a0_1 a0_2 a0_3 a0_4 a0_5 a0_6 a0_7 a0_8 a0_9))) else (impl_CredOk.j0 k true a0_0 a0_1 a0_2 a0_3 a0_4 a0_5 a0_6 a0_7 a0_8 a0_9))
set_option maxHeartbeats 8000000 in
set_option maxRecDepth 100000 in
theorem impl_CredOk.calls (k : Nat) (a0_0 : Int) (a0_1 : Int) (a0_2 : Int) (a0_3 : Int) (a0_4 : Int) (a0_5 : Int) (a0_6 : Int) (a0_7 : Int) (a0_8 : Int) (a0_9 : Int) (r : Bool) (w : World) (h : impl_CredOk.f k a0_0 a0_1 a0_2 a0_3 a0_4 a0_5 a0_6 a0_7 a0_8 a0_9 = some r) :
  Calls Try.prog 31 #[.agg #[.int .i64 a0_0, .int .i64 a0_1, .int .i64 a0_2, .int .i64 a0_3, .int .i64 a0_4, .int .i64 a0_5, .int .i64 a0_6, .int .i64 a0_7, .int .i64 a0_8, .int .i64 a0_9]] w fun e w' => e = .returned (.bool r) ∧ Below w.heap.size w w' := by
 have hu31 := Try.underlying31
 have hu29 := Try.underlying29
 have HB := Aside0.mk (Below.refl w.heap.size w)
 have H : ((impl_RoleOk.f a0_1 a0_2).bind fun t263 => (if t263 = true then ((impl_in.f a0_8 1 9999).bind fun t264 => (if t264 = true then ((impl_in.f a0_9 0 99).bind fun t265 => (impl_CredOk.j0 k (!t265) a0_0 a0_1 a0_2 a0_3 a0_4 a0_5 a0_6 a0_7 a0_8 a0_9)) else (impl_CredOk.j0 k true a0_0 a0_1 a0_2 a0_3 a0_4 a0_5 a0_6 a0_7 a0_8 a0_9))) else (impl_CredOk.j0 k true a0_0 a0_1 a0_2 a0_3 a0_4 a0_5 a0_6 a0_7 a0_8 a0_9))) = some r := h
 clear h
 have HC2 := Aside0.mk H
 clear H
 go_enter Try.func31, Try.ntmps31
 go_upto_region 1 with (first | ((with_reducible refine gate_dst (N := 1) rfl ?_); refine box_event ?hg (N := 1) ?hd (cs := #[.int .i64 a0_0, .int .i64 a0_1, .int .i64 a0_2, .int .i64 a0_3, .int .i64 a0_4, .int .i64 a0_5, .int .i64 a0_6, .int .i64 a0_7, .int .i64 a0_8, .int .i64 a0_9]) (t := 31) ?hr ?_; (case hd => rfl); (case hg => rfl); (case hr => first | (go_simp; done) | (go_simp; rfl)); intro gb262 hg w3 hbox hb; have BK262 := Aside0.mk (hbox); have GW262 := gs_ hg; have GE262 := gs_ hg; replace HB := hbs_ hb; clear hb hbox hg))
 (try simp only [Act.put, List.setIfInBounds_toArray, List.set_cons_zero, List.set_cons_succ])
 go_cut [19] (fun v19 wc => ∃ (kq : Nat) (x19_1 : Bool), v19 = .bool x19_1 ∧ Aside0 (impl_CredOk.j0 kq x19_1 a0_0 a0_1 a0_2 a0_3 a0_4 a0_5 a0_6 a0_7 a0_8 a0_9 = some r) ∧ Aside0 (kq ≤ k) ∧ Aside0 (wc.heap[gb262]? = some (.cells #[.int .i64 a0_0, .int .i64 a0_1, .int .i64 a0_2, .int .i64 a0_3, .int .i64 a0_4, .int .i64 a0_5, .int .i64 a0_6, .int .i64 a0_7, .int .i64 a0_8, .int .i64 a0_9] 31 (0, 0))) ∧ Aside0 (Below w.heap.size w wc))
 case first =>
  have H := HC2.out
  clear HC2
  obtain ⟨t263, A4, H⟩ := bindE_ H
  by_cases c5 : t263 = true
  ·subst c5
   replace H := ite_t_ H
   obtain ⟨t264, A6, H⟩ := bindE_ H
   by_cases c7 : t264 = true
   ·subst c7
    replace H := ite_t_ H
    obtain ⟨t265, A8, H⟩ := bindE_ H
    have H' := Aside0.mk H
    clear H
    have hcz9 := blk_cell BK262.out
    have hfz9 := blk_frozen BK262.out
    go_wp2_with (first | ((with_reducible refine gate_callee (f := 38) rfl ?_); refine goesC_ (some 6) Try.func38 #[.agg #[.int .i64 a0_1, .int .i64 a0_2]] ?_; (with_reducible refine (impl_RoleOk.calls a0_1 a0_2 true _ A4.out).mono ?_); rintro e w10 ⟨rfl, hb⟩; refine ⟨_, rfl, ?_⟩; replace BK262 := bkb_ BK262 hb; replace HB := hbs_ hb; clear hb; have hcz11 := blk_cell BK262.out; have hfz11 := blk_frozen BK262.out) | (go_at_call 35; (with_reducible refine (impl_in.calls a0_8 1 9999 true _ A6.out).mono ?_); rintro e w' ⟨rfl, ⟨nd, rfl⟩⟩) | (go_at_call 35; (with_reducible refine (impl_in.calls a0_9 0 99 t265 _ A8.out).mono ?_); rintro e w' ⟨rfl, ⟨nd, rfl⟩⟩))
    go_meet
    case rel => exact ⟨_, (!t265), (by first | rfl | (simp; done) | (simp [*]; done)), H', ⟨by first | omega | exact Nat.le_refl _⟩, ⟨bk_ BK262⟩, ⟨bl_⟩⟩
   ·replace c7 := Bool.eq_false_iff.mpr c7
    subst c7
    replace H := ite_f_ H
    have H' := Aside0.mk H
    clear H
    have hcz12 := blk_cell BK262.out
    have hfz12 := blk_frozen BK262.out
    go_wp2_with (first | ((with_reducible refine gate_callee (f := 38) rfl ?_); refine goesC_ (some 6) Try.func38 #[.agg #[.int .i64 a0_1, .int .i64 a0_2]] ?_; (with_reducible refine (impl_RoleOk.calls a0_1 a0_2 true _ A4.out).mono ?_); rintro e w13 ⟨rfl, hb⟩; refine ⟨_, rfl, ?_⟩; replace BK262 := bkb_ BK262 hb; replace HB := hbs_ hb; clear hb; have hcz14 := blk_cell BK262.out; have hfz14 := blk_frozen BK262.out) | (go_at_call 35; (with_reducible refine (impl_in.calls a0_8 1 9999 false _ A6.out).mono ?_); rintro e w' ⟨rfl, ⟨nd, rfl⟩⟩))
    go_meet
    case rel => exact ⟨_, (true), (by first | rfl | (simp; done) | (simp [*]; done)), H', ⟨by first | omega | exact Nat.le_refl _⟩, ⟨bk_ BK262⟩, ⟨bl_⟩⟩
  ·replace c5 := Bool.eq_false_iff.mpr c5
   subst c5
   replace H := ite_f_ H
   have H' := Aside0.mk H
   clear H
   have hcz15 := blk_cell BK262.out
   have hfz15 := blk_frozen BK262.out
   go_wp2_with (first | ((with_reducible refine gate_callee (f := 38) rfl ?_); refine goesC_ (some 6) Try.func38 #[.agg #[.int .i64 a0_1, .int .i64 a0_2]] ?_; (with_reducible refine (impl_RoleOk.calls a0_1 a0_2 false _ A4.out).mono ?_); rintro e w16 ⟨rfl, hb⟩; refine ⟨_, rfl, ?_⟩; replace BK262 := bkb_ BK262 hb; replace HB := hbs_ hb; clear hb))
   go_meet
   case rel => exact ⟨_, (true), (by first | rfl | (simp; done) | (simp [*]; done)), H', ⟨by first | omega | exact Nat.le_refl _⟩, ⟨bk_ BK262⟩, ⟨bl_⟩⟩
 case rest =>
  clear HC2
  try clear p2
  try clear c3
  try clear c5
  try clear c7
  try clear hcz11
  try clear hcz12
  try clear hcz14
  try clear hcz15
  try clear hcz9
  try clear hfz11
  try clear hfz12
  try clear hfz14
  try clear hfz15
  try clear hfz9
  obtain ⟨kq, x19_1, rfl, HA, HJ1, BK262, HB⟩ := hcut
  cases kq with
  | zero => exact absurd HA.out (by simp [impl_CredOk.j0])
  | succ kj1 =>
   have H := HA.out
   clear HA
   simp only [impl_CredOk.j0] at H
   by_cases c17 : x19_1 = true
   ·subst c17
    replace H := ite_t_ H
    obtain rfl := Option.some.inj H
    go_wp2
    go_ret
    exact ⟨eq_, bl_⟩
   ·replace c17 := Bool.eq_false_iff.mpr c17
    subst c17
    replace H := ite_f_ H
    have HC18 := Aside0.mk H
    clear H
    go_upto_if 23 with (first | ((with_reducible refine gate_dst (N := 3) rfl ?_); refine box_event ?hg (N := 3) ?hd (cs := #[.int .i64 0, .int .i64 0]) (t := 29) ?hr ?_; (case hd => rfl); (case hg => rfl); (case hr => first | (go_simp; done) | (go_simp; rfl)); intro gb266 hg w19 hbox hb; have BK266 := Aside0.mk (hbox); have GW266 := gs_ hg; have GE266 := gs_ hg; replace HB := hbs_ hb; have NB262_266 := Aside0.mk ((by rw [hg]; exact Nat.ne_of_lt (blk_lt (g := gb262) (o := .cells #[.int .i64 a0_0, .int .i64 a0_1, .int .i64 a0_2, .int .i64 a0_3, .int .i64 a0_4, .int .i64 a0_5, .int .i64 a0_6, .int .i64 a0_7, .int .i64 a0_8, .int .i64 a0_9] 31 (0, 0)) (bk_ BK262)) : gb262 ≠ gb266)); have NB266_262 := Aside0.mk ((by rw [hg]; exact Nat.ne_of_gt (blk_lt (g := gb262) (o := .cells #[.int .i64 a0_0, .int .i64 a0_1, .int .i64 a0_2, .int .i64 a0_3, .int .i64 a0_4, .int .i64 a0_5, .int .i64 a0_6, .int .i64 a0_7, .int .i64 a0_8, .int .i64 a0_9] 31 (0, 0)) (bk_ BK262)) : gb266 ≠ gb262)); replace BK262 := bkb_ BK262 hb; clear hb hbox hg; have hnb20 := NB266_262.out; have hnc20 := NB262_266.out; have hcz21 := blk_cell BK266.out; have hfz21 := blk_frozen BK266.out; have hcz22 := blk_cell BK262.out; have hfz22 := blk_frozen BK262.out))
    have n0_ : Aside0 (((w19.setCell ⟨gb266, 0, none⟩ (.int .i64 0)).setCell ⟨gb266, 1, none⟩ (.int .i64 0)).heap[gb262]? = some (.cells #[.int .i64 a0_0, .int .i64 a0_1, .int .i64 a0_2, .int .i64 a0_3, .int .i64 a0_4, .int .i64 a0_5, .int .i64 a0_6, .int .i64 a0_7, .int .i64 a0_8, .int .i64 a0_9] 31 (0, 0))) := ⟨bk_ BK262⟩
    have n1_ : Aside0 (((w19.setCell ⟨gb266, 0, none⟩ (.int .i64 0)).setCell ⟨gb266, 1, none⟩ (.int .i64 0)).heap[gb266]? = some (.cells #[.int .i64 0, .int .i64 0] 29 (0, 0))) := ⟨bk_ BK266⟩
    have n2_ : Aside0 (Below w.heap.size w ((w19.setCell ⟨gb266, 0, none⟩ (.int .i64 0)).setCell ⟨gb266, 1, none⟩ (.int .i64 0))) := ⟨bl_⟩
    (try clear BK262)
    (try clear BK266)
    (try clear HB)
    generalize ((w19.setCell ⟨gb266, 0, none⟩ (.int .i64 0)).setCell ⟨gb266, 1, none⟩ (.int .i64 0)) = w23 at n0_ n1_ n2_ ⊢
    have BK262 := n0_
    have BK266 := n1_
    have HB := n2_
    clear n0_ n1_ n2_
    (try simp only [Act.put, List.setIfInBounds_toArray, List.set_cons_zero, List.set_cons_succ])
    have H := HC18.out
    clear HC18
    by_cases c24 : a0_0 = 1
    ·rw [if_pos c24] at H
     have c24b0 : (a0_0 == 1) = true := beq_iff_eq.mpr c24
     have c24b1 : (a0_0 != 1) = false := bne_eq_false_iff_eq.mpr c24
     clear c24
     (first | rw [c24b0] | (simp only [i64_w, i32_w]; rw [c24b0]) | skip)
     obtain ⟨t267, A25, H⟩ := bindE_ H
     by_cases c26 : t267 = true
     ·subst c26
      replace H := ite_t_ H
      by_cases c27 : (a0_4 == 0 && (a0_5 == 0)) = true
      ·rw [if_pos c27] at H
       have c27b0 : (a0_4 == 0 && (a0_5 == 0)) = true := c27
       (try (have c27b1 : decide (a0_4 = 0 && (a0_5 == 0)) = true := by simpa using c27))
       (try (have c27b2 : (a0_4 == 0 && (a0_5 == 0)) = true := by simpa using c27))
       clear c27
       obtain rfl := Option.some.inj H
       have hnb28 := NB262_266.out
       have hnc28 := NB266_262.out
       have hcz29 := blk_cell BK262.out
       have hfz29 := blk_frozen BK262.out
       go_wp2_with (first | ((with_reducible refine gate_callee (f := 32) rfl ?_); refine goesC_ (some 27) Try.func32 #[.int .i64 a0_3] ?_; (with_reducible refine (impl_isPerson.calls a0_3 true _ A25.out).mono ?_); rintro e w' ⟨rfl, ⟨nd, rfl⟩⟩; refine ⟨_, rfl, ?_⟩; have hcz30 := blk_cell BK266.out; have hfz30 := blk_frozen BK266.out))
       go_ret
       exact ⟨eq_, bl_⟩
      ·rw [if_neg c27] at H
       have c27b0 : (a0_4 == 0 && (a0_5 == 0)) = false := by simpa using c27
       (try (have c27b1 : decide (a0_4 = 0 && (a0_5 == 0)) = false := by simpa using c27))
       (try (have c27b2 : (a0_4 == 0 && (a0_5 == 0)) = false := by simpa using c27))
       (try (have c27b3 : ¬ (a0_4 = 0 && (a0_5 == 0)) := by simpa using c27))
       clear c27
       obtain rfl := Option.some.inj H
       have hnb31 := NB262_266.out
       have hnc31 := NB266_262.out
       have hcz32 := blk_cell BK262.out
       have hfz32 := blk_frozen BK262.out
       go_wp2_with (first | ((with_reducible refine gate_callee (f := 32) rfl ?_); refine goesC_ (some 27) Try.func32 #[.int .i64 a0_3] ?_; (with_reducible refine (impl_isPerson.calls a0_3 true _ A25.out).mono ?_); rintro e w' ⟨rfl, ⟨nd, rfl⟩⟩; refine ⟨_, rfl, ?_⟩; have hcz33 := blk_cell BK266.out; have hfz33 := blk_frozen BK266.out))
       go_ret
       exact ⟨eq_, bl_⟩
     ·replace c26 := Bool.eq_false_iff.mpr c26
      subst c26
      replace H := ite_f_ H
      obtain rfl := Option.some.inj H
      have hnb34 := NB262_266.out
      have hnc34 := NB266_262.out
      have hcz35 := blk_cell BK262.out
      have hfz35 := blk_frozen BK262.out
      go_wp2_with (first | ((with_reducible refine gate_callee (f := 32) rfl ?_); refine goesC_ (some 27) Try.func32 #[.int .i64 a0_3] ?_; (with_reducible refine (impl_isPerson.calls a0_3 false _ A25.out).mono ?_); rintro e w' ⟨rfl, ⟨nd, rfl⟩⟩; refine ⟨_, rfl, ?_⟩))
      go_ret
      exact ⟨eq_, bl_⟩
    ·rw [if_neg c24] at H
     have c24b0 : (a0_0 == 1) = false := beq_eq_false_iff_ne.mpr c24
     have c24b1 : (a0_0 != 1) = true := bne_iff_ne.mpr c24
     (first | rw [c24b0] | (simp only [i64_w, i32_w]; rw [c24b0]) | skip)
     by_cases c36 : a0_0 = 2
     ·rw [if_pos c36] at H
      have c36b0 : (a0_0 == 2) = true := beq_iff_eq.mpr c36
      have c36b1 : (a0_0 != 2) = false := bne_eq_false_iff_eq.mpr c36
      clear c36
      by_cases c37 : a0_3 = 0
      ·rw [if_pos c37] at H
       have c37b0 : (a0_3 == 0) = true := beq_iff_eq.mpr c37
       have c37b1 : (a0_3 != 0) = false := bne_eq_false_iff_eq.mpr c37
       clear c37
       obtain ⟨t268, A38, H⟩ := bindE_ H
       by_cases c39 : t268 = true
       ·subst c39
        replace H := ite_t_ H
        obtain rfl := Option.some.inj H
        have hnb40 := NB262_266.out
        have hnc40 := NB266_262.out
        have hcz41 := blk_cell BK262.out
        have hfz41 := blk_frozen BK262.out
        go_wp2_with (first | (go_at_call 38; (with_reducible refine (impl_RoleOk.calls a0_4 a0_5 true _ A38.out).mono ?_); rintro e w42 ⟨rfl, hb⟩; replace BK262 := bkb_ BK262 hb; replace BK266 := bkb_ BK266 hb; replace HB := hbs_ hb; clear hb; have hcz43 := blk_cell BK262.out; have hfz43 := blk_frozen BK262.out; have hcz44 := blk_cell BK266.out; have hfz44 := blk_frozen BK266.out))
        go_ret
        exact ⟨eq_, bl_⟩
       ·replace c39 := Bool.eq_false_iff.mpr c39
        subst c39
        replace H := ite_f_ H
        obtain rfl := Option.some.inj H
        have hnb45 := NB262_266.out
        have hnc45 := NB266_262.out
        have hcz46 := blk_cell BK262.out
        have hfz46 := blk_frozen BK262.out
        go_wp2_with (first | (go_at_call 38; (with_reducible refine (impl_RoleOk.calls a0_4 a0_5 false _ A38.out).mono ?_); rintro e w47 ⟨rfl, hb⟩; replace BK262 := bkb_ BK262 hb; replace BK266 := bkb_ BK266 hb; replace HB := hbs_ hb; clear hb))
        go_ret
        exact ⟨eq_, bl_⟩
      ·rw [if_neg c37] at H
       have c37b0 : (a0_3 == 0) = false := beq_eq_false_iff_ne.mpr c37
       have c37b1 : (a0_3 != 0) = true := bne_iff_ne.mpr c37
       obtain rfl := Option.some.inj H
       have hnb48 := NB262_266.out
       have hnc48 := NB266_262.out
       have hcz49 := blk_cell BK262.out
       have hfz49 := blk_frozen BK262.out
       go_wp2
       go_ret
       exact ⟨eq_, bl_⟩
     ·rw [if_neg c36] at H
      have c36b0 : (a0_0 == 2) = false := beq_eq_false_iff_ne.mpr c36
      have c36b1 : (a0_0 != 2) = true := bne_iff_ne.mpr c36
      by_cases c50 : a0_0 = 3
      ·rw [if_pos c50] at H
       have c50b0 : (a0_0 == 3) = true := beq_iff_eq.mpr c50
       have c50b1 : (a0_0 != 3) = false := bne_eq_false_iff_eq.mpr c50
       clear c50
       by_cases c51 : a0_3 = 0
       ·rw [if_pos c51] at H
        have c51b0 : (a0_3 == 0) = true := beq_iff_eq.mpr c51
        have c51b1 : (a0_3 != 0) = false := bne_eq_false_iff_eq.mpr c51
        clear c51
        obtain ⟨t269, A52, H⟩ := bindE_ H
        by_cases c53 : t269 = true
        ·subst c53
         replace H := ite_t_ H
         obtain ⟨t270, A54, H⟩ := bindE_ H
         by_cases c55 : t270 = true
         ·subst c55
          replace H := ite_t_ H
          obtain rfl := Option.some.inj H
          have hnb56 := NB262_266.out
          have hnc56 := NB266_262.out
          have hcz57 := blk_cell BK262.out
          have hfz57 := blk_frozen BK262.out
          go_wp2_with (first | (go_at_call 38; (with_reducible refine (impl_RoleOk.calls a0_4 a0_5 true _ A52.out).mono ?_); rintro e w58 ⟨rfl, hb⟩; replace BK262 := bkb_ BK262 hb; replace BK266 := bkb_ BK266 hb; replace HB := hbs_ hb; clear hb; have hcz59 := blk_cell BK262.out; have hfz59 := blk_frozen BK262.out) | (go_at_call 38; (with_reducible refine (impl_RoleOk.calls a0_6 a0_7 true _ A54.out).mono ?_); rintro e w60 ⟨rfl, hb⟩; replace BK262 := bkb_ BK262 hb; replace BK266 := bkb_ BK266 hb; replace HB := hbs_ hb; clear hb; have hcz61 := blk_cell BK262.out; have hfz61 := blk_frozen BK262.out))
          go_ret
          exact ⟨eq_, bl_⟩
         ·replace c55 := Bool.eq_false_iff.mpr c55
          subst c55
          replace H := ite_f_ H
          obtain rfl := Option.some.inj H
          have hnb62 := NB262_266.out
          have hnc62 := NB266_262.out
          have hcz63 := blk_cell BK262.out
          have hfz63 := blk_frozen BK262.out
          go_wp2_with (first | (go_at_call 38; (with_reducible refine (impl_RoleOk.calls a0_4 a0_5 true _ A52.out).mono ?_); rintro e w64 ⟨rfl, hb⟩; replace BK262 := bkb_ BK262 hb; replace BK266 := bkb_ BK266 hb; replace HB := hbs_ hb; clear hb; have hcz65 := blk_cell BK262.out; have hfz65 := blk_frozen BK262.out) | (go_at_call 38; (with_reducible refine (impl_RoleOk.calls a0_6 a0_7 false _ A54.out).mono ?_); rintro e w66 ⟨rfl, hb⟩; replace BK262 := bkb_ BK262 hb; replace BK266 := bkb_ BK266 hb; replace HB := hbs_ hb; clear hb))
          go_ret
          exact ⟨eq_, bl_⟩
        ·replace c53 := Bool.eq_false_iff.mpr c53
         subst c53
         replace H := ite_f_ H
         obtain rfl := Option.some.inj H
         have hnb67 := NB262_266.out
         have hnc67 := NB266_262.out
         have hcz68 := blk_cell BK262.out
         have hfz68 := blk_frozen BK262.out
         go_wp2_with (first | (go_at_call 38; (with_reducible refine (impl_RoleOk.calls a0_4 a0_5 false _ A52.out).mono ?_); rintro e w69 ⟨rfl, hb⟩; replace BK262 := bkb_ BK262 hb; replace BK266 := bkb_ BK266 hb; replace HB := hbs_ hb; clear hb))
         go_ret
         exact ⟨eq_, bl_⟩
       ·rw [if_neg c51] at H
        have c51b0 : (a0_3 == 0) = false := beq_eq_false_iff_ne.mpr c51
        have c51b1 : (a0_3 != 0) = true := bne_iff_ne.mpr c51
        obtain rfl := Option.some.inj H
        have hnb70 := NB262_266.out
        have hnc70 := NB266_262.out
        have hcz71 := blk_cell BK262.out
        have hfz71 := blk_frozen BK262.out
        go_wp2
        go_ret
        exact ⟨eq_, bl_⟩
      ·rw [if_neg c50] at H
       have c50b0 : (a0_0 == 3) = false := beq_eq_false_iff_ne.mpr c50
       have c50b1 : (a0_0 != 3) = true := bne_iff_ne.mpr c50
       by_cases c72 : a0_0 = 4
       ·rw [if_pos c72] at H
        have c72b0 : (a0_0 == 4) = true := beq_iff_eq.mpr c72
        have c72b1 : (a0_0 != 4) = false := bne_eq_false_iff_eq.mpr c72
        clear c72
        by_cases c73 : a0_3 = 0
        ·rw [if_pos c73] at H
         have c73b0 : (a0_3 == 0) = true := beq_iff_eq.mpr c73
         have c73b1 : (a0_3 != 0) = false := bne_eq_false_iff_eq.mpr c73
         clear c73
         obtain ⟨t271, A74, H⟩ := bindE_ H
         by_cases c75 : t271 = true
         ·subst c75
          replace H := ite_t_ H
          obtain ⟨t272, A76, H⟩ := bindE_ H
          obtain rfl := Option.some.inj H
          have hnb77 := NB262_266.out
          have hnc77 := NB266_262.out
          have hcz78 := blk_cell BK262.out
          have hfz78 := blk_frozen BK262.out
          go_wp2_with (first | (go_at_call 38; (with_reducible refine (impl_RoleOk.calls a0_4 a0_5 true _ A74.out).mono ?_); rintro e w79 ⟨rfl, hb⟩; replace BK262 := bkb_ BK262 hb; replace BK266 := bkb_ BK266 hb; replace HB := hbs_ hb; clear hb; have hcz80 := blk_cell BK262.out; have hfz80 := blk_frozen BK262.out) | (go_at_call 38; (with_reducible refine (impl_RoleOk.calls a0_6 a0_7 t272 _ A76.out).mono ?_); rintro e w81 ⟨rfl, hb⟩; replace BK262 := bkb_ BK262 hb; replace BK266 := bkb_ BK266 hb; replace HB := hbs_ hb; clear hb))
          go_ret
          exact ⟨eq_, bl_⟩
         ·replace c75 := Bool.eq_false_iff.mpr c75
          subst c75
          replace H := ite_f_ H
          obtain rfl := Option.some.inj H
          have hnb82 := NB262_266.out
          have hnc82 := NB266_262.out
          have hcz83 := blk_cell BK262.out
          have hfz83 := blk_frozen BK262.out
          go_wp2_with (first | (go_at_call 38; (with_reducible refine (impl_RoleOk.calls a0_4 a0_5 false _ A74.out).mono ?_); rintro e w84 ⟨rfl, hb⟩; replace BK262 := bkb_ BK262 hb; replace BK266 := bkb_ BK266 hb; replace HB := hbs_ hb; clear hb))
          go_ret
          exact ⟨eq_, bl_⟩
        ·rw [if_neg c73] at H
         have c73b0 : (a0_3 == 0) = false := beq_eq_false_iff_ne.mpr c73
         have c73b1 : (a0_3 != 0) = true := bne_iff_ne.mpr c73
         obtain rfl := Option.some.inj H
         have hnb85 := NB262_266.out
         have hnc85 := NB266_262.out
         have hcz86 := blk_cell BK262.out
         have hfz86 := blk_frozen BK262.out
         go_wp2
         go_ret
         exact ⟨eq_, bl_⟩
       ·rw [if_neg c72] at H
        have c72b0 : (a0_0 == 4) = false := beq_eq_false_iff_ne.mpr c72
        have c72b1 : (a0_0 != 4) = true := bne_iff_ne.mpr c72
        obtain rfl := Option.some.inj H
        go_wp2
        go_ret
        exact ⟨eq_, bl_⟩
end Go.Proofs.Yteppfdkfikeclaa.PL
